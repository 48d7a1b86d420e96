/-
  The paths of all bells and the rows with some paths, of both sides.
  Conditions: none.
-/
import Derived.Test.YtnincmnkdjlndaaA28
import Derived.Test.YtnincmnkdjlndaaA51
import Derived.Test.YtnincmnkdjlndaaVu
import Derived.Test.YtnincmnkdjlndaaA52
import Derived.Test.YtnincmnkdjlndaaPq
set_option linter.unusedSimpArgs false
set_option linter.unusedVariables false
set_option linter.defProp false
namespace Go.Proofs.Ytnincmnkdjlndaa
open Go Go.RowKit
section
variable (P : Program) (k : KT) (e : Env) (w : World)
abbrev b16_1 : X := (.cond (.t 8) (.seq (.reg [2, 3] (.c (.q 2 [] (.mv (.c (.slice none 0 0)))) (.c (.q 3 [] (.mv (.c (.bool false)))) .nil))) .ret) .skip)
def t16_1 := b16_1
theorem u16_1 : vcK P t16_1 k e w = vcK P b16_1 k e w := rfl
abbrev b16_2 : X := (.cond (.t 13) .skip (.exit 0))
def t16_2 := b16_2
theorem u16_2 : vcK P t16_2 k e w = vcK P b16_2 k e w := rfl
abbrev b16_3 : X := (.reg [1, 4, 5] (.c (.q 14 [] (.mv (.t 5))) (.c (.q 15 [] (.bin .add (.t 14) (.c (.int .i64 1)))) (.c (.q 5 [] (.mv (.t 15))) .nil))))
def t16_3 := b16_3
theorem u16_3 : vcK P t16_3 k e w = vcK P b16_3 k e w := rfl
abbrev b16_4 : X := (.seq (.blk 1 (.reg [1, 4, 5] (.c (.q 16 [] (.mv (.t 4))) (.c (.q 17 [] (.lda 3 (.t 1))) (.c (.q 18 [] (.mv (.t 5))) (.c (.e (some 19) [] (.call false 136 [(.t 17), (.t 18)])) (.c (.e (some 20) [] (.bsl 39 1 [(.t 19)])) (.c (.e (some 21) [] (.app 28 39 1 24 [(.slice none 0 0)] 28 (.t 16) (.t 20))) (.c (.q 4 [] (.mv (.t 21))) .nil))))))))) t16_3)
def t16_4 := b16_4
theorem u16_4 : vcK P t16_4 k e w = vcK P b16_4 k e w := rfl
abbrev b16_5 : X := (.seq (.seq (.reg [1, 4, 5, 13] (.c (.q 10 [] (.mv (.t 5))) (.c (.q 11 [] (.fa 1 (.t 1))) (.c (.q 12 [] (.ld (.t 11))) (.c (.q 13 [] (.bin .leq (.t 10) (.t 12))) .nil))))) t16_2) t16_4)
def t16_5 := b16_5
theorem u16_5 : vcK P t16_5 k e w = vcK P b16_5 k e w := rfl
abbrev b16_6 : X := (.blk 0 (.loop [4, 5] [1] t16_5))
def t16_6 := b16_6
theorem u16_6 : vcK P t16_6 k e w = vcK P b16_6 k e w := rfl
abbrev b16_7 : X := (.seq (.reg [2, 3] (.c (.q 22 [] (.mv (.t 4))) (.c (.q 2 [] (.mv (.t 22))) (.c (.q 3 [] (.mv (.c (.bool true)))) .nil)))) .ret)
def t16_7 := b16_7
theorem u16_7 : vcK P t16_7 k e w = vcK P b16_7 k e w := rfl
abbrev b16_8 : X := (.seq (.seq (.reg [1, 4, 5] (.c (.q 5 [] (.mv (.c (.int .i64 1)))) .nil)) t16_6) t16_7)
def t16_8 := b16_8
theorem u16_8 : vcK P t16_8 k e w = vcK P b16_8 k e w := rfl
abbrev b16_9 : X := (.seq (.reg [1, 4] (.c (.e (some 9) [] (.bsl 39 1 [])) (.c (.q 4 [] (.mv (.t 9))) .nil))) t16_8)
def t16_9 := b16_9
theorem u16_9 : vcK P t16_9 k e w = vcK P b16_9 k e w := rfl
abbrev b16_10 : X := (.seq (.seq (.reg [1, 8] (.c (.q 6 [] (.lda 3 (.t 1))) (.c (.e (some 7) [] (.call false 135 [(.t 6)])) (.c (.q 8 [] (.not (.t 7))) .nil)))) t16_1) t16_9)
def t16_10 := b16_10
theorem u16_10 : vcK P t16_10 k e w = vcK P b16_10 k e w := rfl
abbrev b16_0 : X := (.seq (.reg [1] (.c (.e (some 1) [] (.box 26 (.t 0))) (.c (.q 2 [] (.mv (.c (.slice none 0 0)))) (.c (.q 3 [] (.mv (.c (.bool false)))) .nil)))) t16_10)
def x_iPathsOf := b16_0
theorem u16_0 : vcK P x_iPathsOf k e w = vcK P b16_0 k e w := rfl
def r_iPathsOf : List XO := [(.mv (.t 2)), (.mv (.t 3))]
theorem c_iPathsOf : convF Try.prog [147, 148, 152, 160, 162, 163, 170, 178, 206, 208, 210, 224, 233, 235, 236, 251, 264, 265, 268, 270, 287, 322] Try.f16 [([1], []), ([1, 8], []), ([2, 3], []), ([1, 4], []), ([1, 4, 5], []), ([4, 5], [1]), ([1, 4, 5, 13], []), ([1, 4, 5], []), ([1, 4, 5], []), ([2, 3], [])] = some (x_iPathsOf, r_iPathsOf) := by kernel_rfl
def us_iPathsOf :=  (aI (aI (aI @u16_0 @u16_1) (aI @u16_2 (aI @u16_3 @u16_4))) (aI (aI @u16_5 (aI @u16_6 @u16_7)) (aI @u16_8 (aI @u16_9 @u16_10))))
abbrev b17_1 : X := (.cond (.t 8) (.seq (.reg [2, 3] (.c (.q 2 [] (.mv (.c (.slice none 0 0)))) (.c (.q 3 [] (.mv (.c (.bool false)))) .nil))) .ret) .skip)
def t17_1 := b17_1
theorem u17_1 : vcK P t17_1 k e w = vcK P b17_1 k e w := rfl
abbrev b17_2 : X := (.cond (.t 12) .skip (.exit 0))
def t17_2 := b17_2
theorem u17_2 : vcK P t17_2 k e w = vcK P b17_2 k e w := rfl
abbrev b17_3 : X := (.reg [1, 4, 5] (.c (.q 13 [] (.mv (.t 5))) (.c (.q 14 [] (.bin .add (.t 13) (.c (.int .i64 1)))) (.c (.q 5 [] (.mv (.t 14))) .nil))))
def t17_3 := b17_3
theorem u17_3 : vcK P t17_3 k e w = vcK P b17_3 k e w := rfl
abbrev b17_4 : X := (.seq (.blk 1 (.reg [1, 4, 5] (.c (.q 15 [] (.mv (.t 4))) (.c (.q 16 [] (.lda 3 (.t 1))) (.c (.q 17 [] (.mv (.t 5))) (.c (.e (some 18) [] (.call false 138 [(.t 16), (.t 17)])) (.c (.e (some 19) [] (.bsl 39 1 [(.t 18)])) (.c (.e (some 20) [] (.app 28 39 1 24 [(.slice none 0 0)] 28 (.t 15) (.t 19))) (.c (.q 4 [] (.mv (.t 20))) .nil))))))))) t17_3)
def t17_4 := b17_4
theorem u17_4 : vcK P t17_4 k e w = vcK P b17_4 k e w := rfl
abbrev b17_5 : X := (.seq (.seq (.reg [1, 4, 5, 12] (.c (.q 9 [] (.mv (.t 5))) (.c (.q 10 [] (.fa 1 (.t 1))) (.c (.q 11 [] (.ld (.t 10))) (.c (.q 12 [] (.bin .leq (.t 9) (.t 11))) .nil))))) t17_2) t17_4)
def t17_5 := b17_5
theorem u17_5 : vcK P t17_5 k e w = vcK P b17_5 k e w := rfl
abbrev b17_6 : X := (.blk 0 (.loop [4, 5] [1] t17_5))
def t17_6 := b17_6
theorem u17_6 : vcK P t17_6 k e w = vcK P b17_6 k e w := rfl
abbrev b17_7 : X := (.seq (.reg [2, 3] (.c (.q 21 [] (.mv (.t 4))) (.c (.q 2 [] (.mv (.t 21))) (.c (.q 3 [] (.mv (.c (.bool true)))) .nil)))) .ret)
def t17_7 := b17_7
theorem u17_7 : vcK P t17_7 k e w = vcK P b17_7 k e w := rfl
abbrev b17_8 : X := (.seq (.seq (.reg [1, 4, 5] (.c (.q 5 [] (.mv (.c (.int .i64 1)))) .nil)) t17_6) t17_7)
def t17_8 := b17_8
theorem u17_8 : vcK P t17_8 k e w = vcK P b17_8 k e w := rfl
abbrev b17_9 : X := (.seq (.reg [1, 4] (.c (.q 4 [] (.mv (.c (.slice none 0 0)))) .nil)) t17_8)
def t17_9 := b17_9
theorem u17_9 : vcK P t17_9 k e w = vcK P b17_9 k e w := rfl
abbrev b17_10 : X := (.seq (.seq (.reg [1, 8] (.c (.q 6 [] (.lda 3 (.t 1))) (.c (.e (some 7) [] (.call false 137 [(.t 6)])) (.c (.q 8 [] (.not (.t 7))) .nil)))) t17_1) t17_9)
def t17_10 := b17_10
theorem u17_10 : vcK P t17_10 k e w = vcK P b17_10 k e w := rfl
abbrev b17_0 : X := (.seq (.reg [1] (.c (.e (some 1) [] (.box 26 (.t 0))) (.c (.q 2 [] (.mv (.c (.slice none 0 0)))) (.c (.q 3 [] (.mv (.c (.bool false)))) .nil)))) t17_10)
def x_sPathsOf := b17_0
theorem u17_0 : vcK P x_sPathsOf k e w = vcK P b17_0 k e w := rfl
def r_sPathsOf : List XO := [(.mv (.t 2)), (.mv (.t 3))]
theorem c_sPathsOf : convF Try.prog [147, 148, 152, 160, 162, 163, 170, 178, 206, 208, 210, 224, 233, 235, 236, 251, 264, 265, 268, 270, 287, 322] Try.f17 [([1], []), ([1, 8], []), ([2, 3], []), ([1, 4], []), ([1, 4, 5], []), ([4, 5], [1]), ([1, 4, 5, 12], []), ([1, 4, 5], []), ([1, 4, 5], []), ([2, 3], [])] = some (x_sPathsOf, r_sPathsOf) := by kernel_rfl
def us_sPathsOf :=  (aI (aI (aI @u17_0 @u17_1) (aI @u17_2 (aI @u17_3 @u17_4))) (aI (aI @u17_5 (aI @u17_6 @u17_7)) (aI @u17_8 (aI @u17_9 @u17_10))))
abbrev b19_1 : X := (.cond (.t 30) (.seq (.reg [2, 3] (.c (.q 2 [] (.mv (.c (.slice none 0 0)))) (.c (.q 3 [] (.mv (.c (.bool false)))) .nil))) .ret) .skip)
def t19_1 := b19_1
theorem u19_1 : vcK P t19_1 k e w = vcK P b19_1 k e w := rfl
abbrev b19_2 : X := (.cond (.t 43) (.seq (.reg [2, 3] (.c (.q 2 [] (.mv (.c (.slice none 0 0)))) (.c (.q 3 [] (.mv (.c (.bool false)))) .nil))) .ret) .skip)
def t19_2 := b19_2
theorem u19_2 : vcK P t19_2 k e w = vcK P b19_2 k e w := rfl
abbrev b19_3 : X := (.seq (.reg [0, 4, 31, 32, 33, 43] (.c (.q 37 [] (.mv (.t 6))) (.c (.q 38 [] (.lens (.t 37))) (.c (.q 39 [] (.mv (.t 0))) (.c (.q 40 [] (.ia 1 (.t 39) (.c (.int .i64 0)))) (.c (.q 41 [] (.ld (.t 40))) (.c (.q 42 [] (.lens (.t 41))) (.c (.q 43 [] (.bin .neq (.t 38) (.t 42))) .nil)))))))) t19_2)
def t19_3 := b19_3
theorem u19_3 : vcK P t19_3 k e w = vcK P b19_3 k e w := rfl
abbrev b19_4 : X := (.reg [0, 4, 31, 32, 33] (.c (.q 44 [] (.bin .add (.t 33) (.c (.int .i64 1)))) (.c (.q 33 [] (.mv (.t 44))) .nil)))
def t19_4 := b19_4
theorem u19_4 : vcK P t19_4 k e w = vcK P b19_4 k e w := rfl
abbrev b19_5 : X := (.seq (.blk 1 (.seq (.reg [0, 4, 6, 31, 32, 33] (.c (.q 35 [] (.ia 1 (.t 31) (.t 33))) (.c (.q 36 [] (.ld (.t 35))) (.c (.q 6 [] (.mv (.t 36))) .nil)))) t19_3)) t19_4)
def t19_5 := b19_5
theorem u19_5 : vcK P t19_5 k e w = vcK P b19_5 k e w := rfl
abbrev b19_6 : X := (.seq (.cond (.t 34) .skip (.exit 0)) t19_5)
def t19_6 := b19_6
theorem u19_6 : vcK P t19_6 k e w = vcK P b19_6 k e w := rfl
abbrev b19_7 : X := (.seq (.reg [0, 4, 31, 32, 33, 34] (.c (.q 34 [] (.bin .lss (.t 33) (.t 32))) .nil)) t19_6)
def t19_7 := b19_7
theorem u19_7 : vcK P t19_7 k e w = vcK P b19_7 k e w := rfl
abbrev b19_8 : X := (.blk 0 (.loop [33] [0, 4, 31, 32] t19_7))
def t19_8 := b19_8
theorem u19_8 : vcK P t19_8 k e w = vcK P b19_8 k e w := rfl
abbrev b19_9 : X := (.cond (.t 68) (.seq (.reg [2, 3] (.c (.q 2 [] (.mv (.c (.slice none 0 0)))) (.c (.q 3 [] (.mv (.c (.bool false)))) .nil))) .ret) .skip)
def t19_9 := b19_9
theorem u19_9 : vcK P t19_9 k e w = vcK P b19_9 k e w := rfl
abbrev b19_10 : X := (.reg [0, 4, 7, 8, 9, 49, 50, 55, 56, 57] (.c (.q 69 [] (.mv (.t 9))) (.c (.q 70 [] (.mv (.t 11))) (.c (.q 71 [] (.mv (.t 8))) (.c (.q 72 [] (.ia 1 (.t 70) (.t 71))) (.c (.q 73 [] (.ld (.t 72))) (.c (.q 74 [] (.bin .sub (.t 73) (.c (.int .i64 1)))) (.c (.q 75 [] (.mv (.t 10))) (.c (.q 76 [] (.bin .add (.c (.int .i64 49)) (.t 75))) (.c (.q 77 [] (.cvi .u8 (.t 76))) (.c (.q 78 [] (.ia 1 (.t 69) (.t 74))) (.c (.e none [] (.st 1 (.t 78) (.t 77))) .nil))))))))))))
def t19_10 := b19_10
theorem u19_10 : vcK P t19_10 k e w = vcK P b19_10 k e w := rfl
abbrev b19_11 : X := (.seq (.seq (.reg [0, 4, 7, 8, 9, 10, 11, 49, 50, 55, 56, 57, 68] (.c (.q 62 [] (.mv (.t 4))) (.c (.q 63 [] (.mv (.t 11))) (.c (.q 64 [] (.mv (.t 8))) (.c (.q 65 [] (.ia 1 (.t 63) (.t 64))) (.c (.q 66 [] (.ld (.t 65))) (.c (.e (some 67) [] (.call false 140 [(.t 62), (.t 66)])) (.c (.q 68 [] (.not (.t 67))) .nil)))))))) t19_9) t19_10)
def t19_11 := b19_11
theorem u19_11 : vcK P t19_11 k e w = vcK P b19_11 k e w := rfl
abbrev b19_12 : X := (.reg [0, 4, 7, 8, 9, 49, 50, 55, 56, 57] (.c (.q 79 [] (.bin .add (.t 57) (.c (.int .i64 1)))) (.c (.q 57 [] (.mv (.t 79))) .nil)))
def t19_12 := b19_12
theorem u19_12 : vcK P t19_12 k e w = vcK P b19_12 k e w := rfl
abbrev b19_13 : X := (.seq (.blk 5 (.seq (.reg [0, 4, 7, 8, 9, 10, 11, 49, 50, 55, 56, 57] (.c (.q 59 [] (.mv (.t 57))) (.c (.q 60 [] (.ia 1 (.t 55) (.t 57))) (.c (.q 61 [] (.ld (.t 60))) (.c (.q 10 [] (.mv (.t 59))) (.c (.q 11 [] (.mv (.t 61))) .nil)))))) t19_11)) t19_12)
def t19_13 := b19_13
theorem u19_13 : vcK P t19_13 k e w = vcK P b19_13 k e w := rfl
abbrev b19_14 : X := (.seq (.cond (.t 58) .skip (.exit 4)) t19_13)
def t19_14 := b19_14
theorem u19_14 : vcK P t19_14 k e w = vcK P b19_14 k e w := rfl
abbrev b19_15 : X := (.seq (.reg [0, 4, 7, 8, 9, 49, 50, 55, 56, 57, 58] (.c (.q 58 [] (.bin .lss (.t 57) (.t 56))) .nil)) t19_14)
def t19_15 := b19_15
theorem u19_15 : vcK P t19_15 k e w = vcK P b19_15 k e w := rfl
abbrev b19_16 : X := (.blk 4 (.loop [57] [0, 4, 7, 8, 9, 49, 50, 55, 56] t19_15))
def t19_16 := b19_16
theorem u19_16 : vcK P t19_16 k e w = vcK P b19_16 k e w := rfl
abbrev b19_17 : X := (.cond (.t 83) (.seq (.reg [2, 3] (.c (.q 2 [] (.mv (.c (.slice none 0 0)))) (.c (.q 3 [] (.mv (.c (.bool false)))) .nil))) .ret) .skip)
def t19_17 := b19_17
theorem u19_17 : vcK P t19_17 k e w = vcK P b19_17 k e w := rfl
abbrev b19_18 : X := (.reg [0, 4, 7, 49, 50] (.c (.q 84 [] (.mv (.t 7))) (.c (.q 85 [] (.mv (.t 9))) (.c (.e (some 86) [] (.b2s (.t 85))) (.c (.e (some 87) [] (.bsl 9 1 [(.t 86)])) (.c (.e (some 88) [] (.app 24 9 1 16 [(S [])] 24 (.t 84) (.t 87))) (.c (.q 7 [] (.mv (.t 88))) .nil)))))))
def t19_18 := b19_18
theorem u19_18 : vcK P t19_18 k e w = vcK P b19_18 k e w := rfl
abbrev b19_19 : X := (.seq (.seq (.reg [0, 4, 7, 9, 49, 50, 83] (.c (.q 80 [] (.mv (.t 9))) (.c (.e (some 81) [] (.b2s (.t 80))) (.c (.e (some 82) [] (.call false 141 [(.t 81)])) (.c (.q 83 [] (.not (.t 82))) .nil))))) t19_17) t19_18)
def t19_19 := b19_19
theorem u19_19 : vcK P t19_19 k e w = vcK P b19_19 k e w := rfl
abbrev b19_20 : X := (.seq (.seq (.reg [0, 4, 7, 8, 9, 49, 50, 55, 56, 57] (.c (.q 55 [] (.mv (.t 0))) (.c (.q 56 [] (.lens (.t 55))) (.c (.q 57 [] (.mv (.c (.int .i64 0)))) .nil)))) t19_16) t19_19)
def t19_20 := b19_20
theorem u19_20 : vcK P t19_20 k e w = vcK P b19_20 k e w := rfl
abbrev b19_21 : X := (.seq (.reg [0, 4, 7, 8, 9, 49, 50] (.c (.q 53 [] (.mv (.t 4))) (.c (.e (some 54) [] (.msl 22 5 1 1 [(.int .u8 0)] (.t 53) (.t 53))) (.c (.q 9 [] (.mv (.t 54))) .nil)))) t19_20)
def t19_21 := b19_21
theorem u19_21 : vcK P t19_21 k e w = vcK P b19_21 k e w := rfl
abbrev b19_22 : X := (.reg [0, 4, 7, 49, 50] (.c (.q 89 [] (.bin .add (.t 50) (.c (.int .i64 1)))) (.c (.q 50 [] (.mv (.t 89))) .nil)))
def t19_22 := b19_22
theorem u19_22 : vcK P t19_22 k e w = vcK P b19_22 k e w := rfl
abbrev b19_23 : X := (.seq (.blk 3 (.seq (.reg [0, 4, 7, 8, 49, 50] (.c (.q 52 [] (.mv (.t 50))) (.c (.q 8 [] (.mv (.t 52))) .nil))) t19_21)) t19_22)
def t19_23 := b19_23
theorem u19_23 : vcK P t19_23 k e w = vcK P b19_23 k e w := rfl
abbrev b19_24 : X := (.seq (.cond (.t 51) .skip (.exit 2)) t19_23)
def t19_24 := b19_24
theorem u19_24 : vcK P t19_24 k e w = vcK P b19_24 k e w := rfl
abbrev b19_25 : X := (.seq (.reg [0, 4, 7, 49, 50, 51] (.c (.q 51 [] (.bin .lss (.t 50) (.t 49))) .nil)) t19_24)
def t19_25 := b19_25
theorem u19_25 : vcK P t19_25 k e w = vcK P b19_25 k e w := rfl
abbrev b19_26 : X := (.blk 2 (.loop [7, 50] [0, 4, 49] t19_25))
def t19_26 := b19_26
theorem u19_26 : vcK P t19_26 k e w = vcK P b19_26 k e w := rfl
abbrev b19_27 : X := (.seq (.reg [2, 3] (.c (.q 90 [] (.mv (.t 7))) (.c (.q 2 [] (.mv (.t 90))) (.c (.q 3 [] (.mv (.c (.bool true)))) .nil)))) .ret)
def t19_27 := b19_27
theorem u19_27 : vcK P t19_27 k e w = vcK P b19_27 k e w := rfl
abbrev b19_28 : X := (.seq (.seq (.reg [0, 4, 7, 49, 50] (.c (.q 46 [] (.mv (.t 0))) (.c (.q 47 [] (.ia 1 (.t 46) (.c (.int .i64 0)))) (.c (.q 48 [] (.ld (.t 47))) (.c (.q 49 [] (.lens (.t 48))) (.c (.q 50 [] (.mv (.c (.int .i64 0)))) .nil)))))) t19_26) t19_27)
def t19_28 := b19_28
theorem u19_28 : vcK P t19_28 k e w = vcK P b19_28 k e w := rfl
abbrev b19_29 : X := (.seq (.reg [0, 4, 7] (.c (.e (some 45) [] (.bsl 9 1 [])) (.c (.q 7 [] (.mv (.t 45))) .nil))) t19_28)
def t19_29 := b19_29
theorem u19_29 : vcK P t19_29 k e w = vcK P b19_29 k e w := rfl
abbrev b19_30 : X := (.seq (.seq (.reg [0, 4, 31, 32, 33] (.c (.q 31 [] (.mv (.t 0))) (.c (.q 32 [] (.lens (.t 31))) (.c (.q 33 [] (.mv (.c (.int .i64 0)))) .nil)))) t19_8) t19_29)
def t19_30 := b19_30
theorem u19_30 : vcK P t19_30 k e w = vcK P b19_30 k e w := rfl
abbrev b19_31 : X := (.seq (.seq (.reg [0, 4, 30] (.c (.q 14 [] (.mv (.t 4))) (.c (.e (some 15) [] (.call false 139 [(.t 14)])) (.c (.q 16 [] (.not (.t 15))) (.c (.q 17 [] (.mv (.t 16))) (.c (.q 18 [(17, false)] (.mv (.t 0))) (.c (.q 19 [(17, false)] (.ia 1 (.t 18) (.c (.int .i64 0)))) (.c (.q 20 [(17, false)] (.ld (.t 19))) (.c (.q 21 [(17, false)] (.lens (.t 20))) (.c (.q 22 [(17, false)] (.bin .lss (.t 21) (.c (.int .i64 1)))) (.c (.q 23 [] (.pick (.t 17) (.c (.bool true)) (.t 22))) (.c (.q 24 [] (.mv (.t 23))) (.c (.q 25 [(24, false)] (.mv (.t 0))) (.c (.q 26 [(24, false)] (.ia 1 (.t 25) (.c (.int .i64 0)))) (.c (.q 27 [(24, false)] (.ld (.t 26))) (.c (.q 28 [(24, false)] (.lens (.t 27))) (.c (.q 29 [(24, false)] (.bin .gtr (.t 28) (.c (.int .i64 800)))) (.c (.q 30 [] (.pick (.t 24) (.c (.bool true)) (.t 29))) .nil)))))))))))))))))) t19_1) t19_30)
def t19_31 := b19_31
theorem u19_31 : vcK P t19_31 k e w = vcK P b19_31 k e w := rfl
abbrev b19_32 : X := (.seq (.reg [0, 4] (.c (.q 12 [] (.mv (.t 0))) (.c (.q 13 [] (.lens (.t 12))) (.c (.q 4 [] (.mv (.t 13))) .nil)))) t19_31)
def t19_32 := b19_32
theorem u19_32 : vcK P t19_32 k e w = vcK P b19_32 k e w := rfl
abbrev b19_0 : X := (.seq (.reg [0] (.c (.q 2 [] (.mv (.c (.slice none 0 0)))) (.c (.q 3 [] (.mv (.c (.bool false)))) .nil))) t19_32)
def x_iRowsOf := b19_0
theorem u19_0 : vcK P x_iRowsOf k e w = vcK P b19_0 k e w := rfl
def r_iRowsOf : List XO := [(.mv (.t 2)), (.mv (.t 3))]
theorem c_iRowsOf : convF Try.prog [147, 148, 152, 160, 162, 163, 170, 178, 206, 208, 210, 224, 233, 235, 236, 251, 264, 265, 268, 270, 287, 322] Try.f19 [([0], []), ([0, 4], []), ([0, 4, 30], []), ([2, 3], []), ([0, 4, 31, 32, 33], []), ([33], [0, 4, 31, 32]), ([0, 4, 31, 32, 33, 34], []), ([0, 4, 6, 31, 32, 33], []), ([0, 4, 31, 32, 33, 43], []), ([2, 3], []), ([0, 4, 31, 32, 33], []), ([0, 4, 7], []), ([0, 4, 7, 49, 50], []), ([7, 50], [0, 4, 49]), ([0, 4, 7, 49, 50, 51], []), ([0, 4, 7, 8, 49, 50], []), ([0, 4, 7, 8, 9, 49, 50], []), ([0, 4, 7, 8, 9, 49, 50, 55, 56, 57], []), ([57], [0, 4, 7, 8, 9, 49, 50, 55, 56]), ([0, 4, 7, 8, 9, 49, 50, 55, 56, 57, 58], []), ([0, 4, 7, 8, 9, 10, 11, 49, 50, 55, 56, 57], []), ([0, 4, 7, 8, 9, 10, 11, 49, 50, 55, 56, 57, 68], []), ([2, 3], []), ([0, 4, 7, 8, 9, 49, 50, 55, 56, 57], []), ([0, 4, 7, 8, 9, 49, 50, 55, 56, 57], []), ([0, 4, 7, 9, 49, 50, 83], []), ([2, 3], []), ([0, 4, 7, 49, 50], []), ([0, 4, 7, 49, 50], []), ([2, 3], [])] = some (x_iRowsOf, r_iRowsOf) := by kernel_rfl
def us_iRowsOf :=  (aI (aI (aI (aI (aI @u19_0 @u19_1) (aI @u19_2 @u19_3)) (aI (aI @u19_4 @u19_5) (aI @u19_6 @u19_7))) (aI (aI (aI @u19_8 @u19_9) (aI @u19_10 @u19_11)) (aI (aI @u19_12 @u19_13) (aI @u19_14 @u19_15)))) (aI (aI (aI (aI @u19_16 @u19_17) (aI @u19_18 @u19_19)) (aI (aI @u19_20 @u19_21) (aI @u19_22 @u19_23))) (aI (aI (aI @u19_24 @u19_25) (aI @u19_26 @u19_27)) (aI (aI @u19_28 @u19_29) (aI @u19_30 (aI @u19_31 @u19_32))))))
abbrev b28_1 : X := (.cond (.t 24) (.seq (.reg [2, 3] (.c (.q 2 [] (.mv (.c (.slice none 0 0)))) (.c (.q 3 [] (.mv (.c (.bool false)))) .nil))) .ret) .skip)
def t28_1 := b28_1
theorem u28_1 : vcK P t28_1 k e w = vcK P b28_1 k e w := rfl
abbrev b28_2 : X := (.cond (.t 43) (.seq (.reg [2, 3] (.c (.q 2 [] (.mv (.c (.slice none 0 0)))) (.c (.q 3 [] (.mv (.c (.bool false)))) .nil))) .ret) .skip)
def t28_2 := b28_2
theorem u28_2 : vcK P t28_2 k e w = vcK P b28_2 k e w := rfl
abbrev b28_3 : X := (.seq (.reg [0, 4, 25, 26, 27, 43] (.c (.q 31 [] (.mv (.t 6))) (.c (.q 32 [] (.lens (.t 31))) (.c (.q 33 [] (.mv (.t 0))) (.c (.q 34 [] (.ia 1 (.t 33) (.c (.int .i64 0)))) (.c (.q 35 [] (.ld (.t 34))) (.c (.q 36 [] (.lens (.t 35))) (.c (.q 37 [] (.bin .neq (.t 32) (.t 36))) (.c (.q 38 [] (.mv (.t 37))) (.c (.q 39 [(38, false)] (.mv (.t 6))) (.c (.q 40 [(38, false)] (.mv (.t 4))) (.c (.e (some 41) [(38, false)] (.call false 150 [(.t 39), (.c (.int .i64 1)), (.t 40)])) (.c (.q 42 [(38, false)] (.not (.t 41))) (.c (.q 43 [] (.pick (.t 38) (.c (.bool true)) (.t 42))) .nil)))))))))))))) t28_2)
def t28_3 := b28_3
theorem u28_3 : vcK P t28_3 k e w = vcK P b28_3 k e w := rfl
abbrev b28_4 : X := (.reg [0, 4, 25, 26, 27] (.c (.q 44 [] (.bin .add (.t 27) (.c (.int .i64 1)))) (.c (.q 27 [] (.mv (.t 44))) .nil)))
def t28_4 := b28_4
theorem u28_4 : vcK P t28_4 k e w = vcK P b28_4 k e w := rfl
abbrev b28_5 : X := (.seq (.blk 1 (.seq (.reg [0, 4, 6, 25, 26, 27] (.c (.q 29 [] (.ia 1 (.t 25) (.t 27))) (.c (.q 30 [] (.ld (.t 29))) (.c (.q 6 [] (.mv (.t 30))) .nil)))) t28_3)) t28_4)
def t28_5 := b28_5
theorem u28_5 : vcK P t28_5 k e w = vcK P b28_5 k e w := rfl
abbrev b28_6 : X := (.seq (.cond (.t 28) .skip (.exit 0)) t28_5)
def t28_6 := b28_6
theorem u28_6 : vcK P t28_6 k e w = vcK P b28_6 k e w := rfl
abbrev b28_7 : X := (.seq (.reg [0, 4, 25, 26, 27, 28] (.c (.q 28 [] (.bin .lss (.t 27) (.t 26))) .nil)) t28_6)
def t28_7 := b28_7
theorem u28_7 : vcK P t28_7 k e w = vcK P b28_7 k e w := rfl
abbrev b28_8 : X := (.blk 0 (.loop [27] [0, 4, 25, 26] t28_7))
def t28_8 := b28_8
theorem u28_8 : vcK P t28_8 k e w = vcK P b28_8 k e w := rfl
abbrev b28_9 : X := (.reg [0, 4, 7, 8, 9, 48, 49, 54, 55, 56] (.c (.q 61 [] (.mv (.t 9))) (.c (.q 62 [] (.mv (.t 11))) (.c (.q 63 [] (.mv (.t 8))) (.c (.q 64 [] (.ia 1 (.t 62) (.t 63))) (.c (.q 65 [] (.ld (.t 64))) (.c (.q 66 [] (.bin .sub (.t 65) (.c (.int .i64 1)))) (.c (.q 67 [] (.mv (.t 10))) (.c (.q 68 [] (.bin .add (.c (.int .i64 49)) (.t 67))) (.c (.q 69 [] (.cvi .u8 (.t 68))) (.c (.q 70 [] (.ia 1 (.t 61) (.t 66))) (.c (.e none [] (.st 1 (.t 70) (.t 69))) .nil))))))))))))
def t28_9 := b28_9
theorem u28_9 : vcK P t28_9 k e w = vcK P b28_9 k e w := rfl
abbrev b28_10 : X := (.reg [0, 4, 7, 8, 9, 48, 49, 54, 55, 56] (.c (.q 71 [] (.bin .add (.t 56) (.c (.int .i64 1)))) (.c (.q 56 [] (.mv (.t 71))) .nil)))
def t28_10 := b28_10
theorem u28_10 : vcK P t28_10 k e w = vcK P b28_10 k e w := rfl
abbrev b28_11 : X := (.seq (.blk 5 (.seq (.reg [0, 4, 7, 8, 9, 10, 11, 48, 49, 54, 55, 56] (.c (.q 58 [] (.mv (.t 56))) (.c (.q 59 [] (.ia 1 (.t 54) (.t 56))) (.c (.q 60 [] (.ld (.t 59))) (.c (.q 10 [] (.mv (.t 58))) (.c (.q 11 [] (.mv (.t 60))) .nil)))))) t28_9)) t28_10)
def t28_11 := b28_11
theorem u28_11 : vcK P t28_11 k e w = vcK P b28_11 k e w := rfl
abbrev b28_12 : X := (.seq (.cond (.t 57) .skip (.exit 4)) t28_11)
def t28_12 := b28_12
theorem u28_12 : vcK P t28_12 k e w = vcK P b28_12 k e w := rfl
abbrev b28_13 : X := (.seq (.reg [0, 4, 7, 8, 9, 48, 49, 54, 55, 56, 57] (.c (.q 57 [] (.bin .lss (.t 56) (.t 55))) .nil)) t28_12)
def t28_13 := b28_13
theorem u28_13 : vcK P t28_13 k e w = vcK P b28_13 k e w := rfl
abbrev b28_14 : X := (.blk 4 (.loop [56] [0, 4, 7, 8, 9, 48, 49, 54, 55] t28_13))
def t28_14 := b28_14
theorem u28_14 : vcK P t28_14 k e w = vcK P b28_14 k e w := rfl
abbrev b28_15 : X := (.cond (.t 75) (.seq (.reg [2, 3] (.c (.q 2 [] (.mv (.c (.slice none 0 0)))) (.c (.q 3 [] (.mv (.c (.bool false)))) .nil))) .ret) .skip)
def t28_15 := b28_15
theorem u28_15 : vcK P t28_15 k e w = vcK P b28_15 k e w := rfl
abbrev b28_16 : X := (.reg [0, 4, 7, 48, 49] (.c (.q 76 [] (.mv (.t 7))) (.c (.q 77 [] (.mv (.t 9))) (.c (.e (some 78) [] (.b2s (.t 77))) (.c (.e (some 79) [] (.bsl 9 1 [(.t 78)])) (.c (.e (some 80) [] (.app 24 9 1 16 [(S [])] 24 (.t 76) (.t 79))) (.c (.q 7 [] (.mv (.t 80))) .nil)))))))
def t28_16 := b28_16
theorem u28_16 : vcK P t28_16 k e w = vcK P b28_16 k e w := rfl
abbrev b28_17 : X := (.seq (.seq (.reg [0, 4, 7, 9, 48, 49, 75] (.c (.q 72 [] (.mv (.t 9))) (.c (.e (some 73) [] (.b2s (.t 72))) (.c (.e (some 74) [] (.call false 151 [(.t 73)])) (.c (.q 75 [] (.not (.t 74))) .nil))))) t28_15) t28_16)
def t28_17 := b28_17
theorem u28_17 : vcK P t28_17 k e w = vcK P b28_17 k e w := rfl
abbrev b28_18 : X := (.seq (.seq (.reg [0, 4, 7, 8, 9, 48, 49, 54, 55, 56] (.c (.q 54 [] (.mv (.t 0))) (.c (.q 55 [] (.lens (.t 54))) (.c (.q 56 [] (.mv (.c (.int .i64 0)))) .nil)))) t28_14) t28_17)
def t28_18 := b28_18
theorem u28_18 : vcK P t28_18 k e w = vcK P b28_18 k e w := rfl
abbrev b28_19 : X := (.seq (.reg [0, 4, 7, 8, 9, 48, 49] (.c (.q 52 [] (.mv (.t 4))) (.c (.e (some 53) [] (.msl 22 5 1 1 [(.int .u8 0)] (.t 52) (.t 52))) (.c (.q 9 [] (.mv (.t 53))) .nil)))) t28_18)
def t28_19 := b28_19
theorem u28_19 : vcK P t28_19 k e w = vcK P b28_19 k e w := rfl
abbrev b28_20 : X := (.reg [0, 4, 7, 48, 49] (.c (.q 81 [] (.bin .add (.t 49) (.c (.int .i64 1)))) (.c (.q 49 [] (.mv (.t 81))) .nil)))
def t28_20 := b28_20
theorem u28_20 : vcK P t28_20 k e w = vcK P b28_20 k e w := rfl
abbrev b28_21 : X := (.seq (.blk 3 (.seq (.reg [0, 4, 7, 8, 48, 49] (.c (.q 51 [] (.mv (.t 49))) (.c (.q 8 [] (.mv (.t 51))) .nil))) t28_19)) t28_20)
def t28_21 := b28_21
theorem u28_21 : vcK P t28_21 k e w = vcK P b28_21 k e w := rfl
abbrev b28_22 : X := (.seq (.cond (.t 50) .skip (.exit 2)) t28_21)
def t28_22 := b28_22
theorem u28_22 : vcK P t28_22 k e w = vcK P b28_22 k e w := rfl
abbrev b28_23 : X := (.seq (.reg [0, 4, 7, 48, 49, 50] (.c (.q 50 [] (.bin .lss (.t 49) (.t 48))) .nil)) t28_22)
def t28_23 := b28_23
theorem u28_23 : vcK P t28_23 k e w = vcK P b28_23 k e w := rfl
abbrev b28_24 : X := (.blk 2 (.loop [7, 49] [0, 4, 48] t28_23))
def t28_24 := b28_24
theorem u28_24 : vcK P t28_24 k e w = vcK P b28_24 k e w := rfl
abbrev b28_25 : X := (.seq (.reg [2, 3] (.c (.q 82 [] (.mv (.t 7))) (.c (.q 2 [] (.mv (.t 82))) (.c (.q 3 [] (.mv (.c (.bool true)))) .nil)))) .ret)
def t28_25 := b28_25
theorem u28_25 : vcK P t28_25 k e w = vcK P b28_25 k e w := rfl
abbrev b28_26 : X := (.seq (.seq (.reg [0, 4, 7, 48, 49] (.c (.q 45 [] (.mv (.t 0))) (.c (.q 46 [] (.ia 1 (.t 45) (.c (.int .i64 0)))) (.c (.q 47 [] (.ld (.t 46))) (.c (.q 48 [] (.lens (.t 47))) (.c (.q 49 [] (.mv (.c (.int .i64 0)))) .nil)))))) t28_24) t28_25)
def t28_26 := b28_26
theorem u28_26 : vcK P t28_26 k e w = vcK P b28_26 k e w := rfl
abbrev b28_27 : X := (.seq (.reg [0, 4, 7] (.c (.q 7 [] (.mv (.c (.slice none 0 0)))) .nil)) t28_26)
def t28_27 := b28_27
theorem u28_27 : vcK P t28_27 k e w = vcK P b28_27 k e w := rfl
abbrev b28_28 : X := (.seq (.seq (.reg [0, 4, 25, 26, 27] (.c (.q 25 [] (.mv (.t 0))) (.c (.q 26 [] (.lens (.t 25))) (.c (.q 27 [] (.mv (.c (.int .i64 0)))) .nil)))) t28_8) t28_27)
def t28_28 := b28_28
theorem u28_28 : vcK P t28_28 k e w = vcK P b28_28 k e w := rfl
abbrev b28_29 : X := (.seq (.seq (.reg [0, 4, 24] (.c (.q 14 [] (.mv (.t 4))) (.c (.e (some 15) [] (.call false 149 [(.t 14), (.c (.int .i64 3)), (.c (.int .i64 8))])) (.c (.q 16 [] (.not (.t 15))) (.c (.q 17 [] (.mv (.t 16))) (.c (.q 18 [(17, false)] (.mv (.t 0))) (.c (.q 19 [(17, false)] (.ia 1 (.t 18) (.c (.int .i64 0)))) (.c (.q 20 [(17, false)] (.ld (.t 19))) (.c (.q 21 [(17, false)] (.lens (.t 20))) (.c (.e (some 22) [(17, false)] (.call false 149 [(.t 21), (.c (.int .i64 1)), (.c (.int .i64 800))])) (.c (.q 23 [(17, false)] (.not (.t 22))) (.c (.q 24 [] (.pick (.t 17) (.c (.bool true)) (.t 23))) .nil)))))))))))) t28_1) t28_28)
def t28_29 := b28_29
theorem u28_29 : vcK P t28_29 k e w = vcK P b28_29 k e w := rfl
abbrev b28_30 : X := (.seq (.reg [0, 4] (.c (.q 12 [] (.mv (.t 0))) (.c (.q 13 [] (.lens (.t 12))) (.c (.q 4 [] (.mv (.t 13))) .nil)))) t28_29)
def t28_30 := b28_30
theorem u28_30 : vcK P t28_30 k e w = vcK P b28_30 k e w := rfl
abbrev b28_0 : X := (.seq (.reg [0] (.c (.q 2 [] (.mv (.c (.slice none 0 0)))) (.c (.q 3 [] (.mv (.c (.bool false)))) .nil))) t28_30)
def x_sRowsOf := b28_0
theorem u28_0 : vcK P x_sRowsOf k e w = vcK P b28_0 k e w := rfl
def r_sRowsOf : List XO := [(.mv (.t 2)), (.mv (.t 3))]
theorem c_sRowsOf : convF Try.prog [147, 148, 152, 160, 162, 163, 170, 178, 206, 208, 210, 224, 233, 235, 236, 251, 264, 265, 268, 270, 287, 322] Try.f28 [([0], []), ([0, 4], []), ([0, 4, 24], []), ([2, 3], []), ([0, 4, 25, 26, 27], []), ([27], [0, 4, 25, 26]), ([0, 4, 25, 26, 27, 28], []), ([0, 4, 6, 25, 26, 27], []), ([0, 4, 25, 26, 27, 43], []), ([2, 3], []), ([0, 4, 25, 26, 27], []), ([0, 4, 7], []), ([0, 4, 7, 48, 49], []), ([7, 49], [0, 4, 48]), ([0, 4, 7, 48, 49, 50], []), ([0, 4, 7, 8, 48, 49], []), ([0, 4, 7, 8, 9, 48, 49], []), ([0, 4, 7, 8, 9, 48, 49, 54, 55, 56], []), ([56], [0, 4, 7, 8, 9, 48, 49, 54, 55]), ([0, 4, 7, 8, 9, 48, 49, 54, 55, 56, 57], []), ([0, 4, 7, 8, 9, 10, 11, 48, 49, 54, 55, 56], []), ([0, 4, 7, 8, 9, 48, 49, 54, 55, 56], []), ([0, 4, 7, 8, 9, 48, 49, 54, 55, 56], []), ([0, 4, 7, 9, 48, 49, 75], []), ([2, 3], []), ([0, 4, 7, 48, 49], []), ([0, 4, 7, 48, 49], []), ([2, 3], [])] = some (x_sRowsOf, r_sRowsOf) := by kernel_rfl
def us_sRowsOf :=  (aI (aI (aI (aI @u28_0 (aI @u28_1 @u28_2)) (aI (aI @u28_3 @u28_4) (aI @u28_5 @u28_6))) (aI (aI (aI @u28_7 @u28_8) (aI @u28_9 @u28_10)) (aI (aI @u28_11 @u28_12) (aI @u28_13 @u28_14)))) (aI (aI (aI (aI @u28_15 @u28_16) (aI @u28_17 @u28_18)) (aI (aI @u28_19 @u28_20) (aI @u28_21 @u28_22))) (aI (aI (aI @u28_23 @u28_24) (aI @u28_25 @u28_26)) (aI (aI @u28_27 @u28_28) (aI @u28_29 @u28_30)))))
abbrev b25_1 : X := (.cond (.t 17) (.seq (.reg [4, 5] (.c (.q 4 [] (.mv (.s []))) (.c (.q 5 [] (.mv (.c (.bool false)))) .nil))) .ret) .skip)
def t25_1 := b25_1
theorem u25_1 : vcK P t25_1 k e w = vcK P b25_1 k e w := rfl
abbrev b25_2 : X := (.cond (.t 21) .skip (.exit 0))
def t25_2 := b25_2
theorem u25_2 : vcK P t25_2 k e w = vcK P b25_2 k e w := rfl
abbrev b25_3 : X := (.cond (.t 39) (.reg [6, 8, 9] (.c (.q 50 [] (.mv (.t 8))) (.c (.q 51 [] (.bin .add (.t 50) (.s [92]))) (.c (.q 8 [] (.mv (.t 51))) .nil)))) (.reg [6, 8, 9] (.c (.q 24 [] (.mv (.t 8))) (.c (.q 25 [] (.bin .add (.t 24) (.s [61]))) (.c (.q 8 [] (.mv (.t 25))) .nil)))))
def t25_3 := b25_3
theorem u25_3 : vcK P t25_3 k e w = vcK P b25_3 k e w := rfl
abbrev b25_4 : X := (.cond (.t 26) (.reg [6, 8, 9] (.c (.q 37 [] (.mv (.t 8))) (.c (.q 38 [] (.bin .add (.t 37) (.s [47]))) (.c (.q 8 [] (.mv (.t 38))) .nil)))) (.seq (.drw [6, 8, 9, 39] (.c (.q 40 [] (.mv (.t 6))) (.c (.q 41 [] (.mv (.t 9))) (.c (.q 42 [] (.ia 1 (.t 40) (.t 41))) (.c (.q 43 [] (.ld (.t 42))) (.c (.q 44 [] (.mv (.t 6))) (.c (.q 45 [] (.mv (.t 9))) (.c (.q 46 [] (.bin .sub (.t 45) (.c (.int .i64 1)))) (.c (.q 47 [] (.ia 1 (.t 44) (.t 46))) (.c (.q 48 [] (.ld (.t 47))) (.c (.q 49 [] (.bin .lss (.t 43) (.t 48))) (.c (.q 39 [] (.mv (.t 49))) .nil)))))))))))) t25_3))
def t25_4 := b25_4
theorem u25_4 : vcK P t25_4 k e w = vcK P b25_4 k e w := rfl
abbrev b25_5 : X := (.reg [6, 8, 9] (.c (.q 22 [] (.mv (.t 9))) (.c (.q 23 [] (.bin .add (.t 22) (.c (.int .i64 1)))) (.c (.q 9 [] (.mv (.t 23))) .nil))))
def t25_5 := b25_5
theorem u25_5 : vcK P t25_5 k e w = vcK P b25_5 k e w := rfl
abbrev b25_6 : X := (.seq (.blk 1 (.blk 2 (.seq (.drw [6, 8, 9, 26] (.c (.q 27 [] (.mv (.t 6))) (.c (.q 28 [] (.mv (.t 9))) (.c (.q 29 [] (.ia 1 (.t 27) (.t 28))) (.c (.q 30 [] (.ld (.t 29))) (.c (.q 31 [] (.mv (.t 6))) (.c (.q 32 [] (.mv (.t 9))) (.c (.q 33 [] (.bin .sub (.t 32) (.c (.int .i64 1)))) (.c (.q 34 [] (.ia 1 (.t 31) (.t 33))) (.c (.q 35 [] (.ld (.t 34))) (.c (.q 36 [] (.bin .gtr (.t 30) (.t 35))) (.c (.q 26 [] (.mv (.t 36))) .nil)))))))))))) t25_4))) t25_5)
def t25_6 := b25_6
theorem u25_6 : vcK P t25_6 k e w = vcK P b25_6 k e w := rfl
abbrev b25_7 : X := (.seq (.seq (.reg [6, 8, 9, 21] (.c (.q 18 [] (.mv (.t 9))) (.c (.q 19 [] (.mv (.t 6))) (.c (.q 20 [] (.lens (.t 19))) (.c (.q 21 [] (.bin .lss (.t 18) (.t 20))) .nil))))) t25_2) t25_6)
def t25_7 := b25_7
theorem u25_7 : vcK P t25_7 k e w = vcK P b25_7 k e w := rfl
abbrev b25_8 : X := (.blk 0 (.loop [8, 9] [6] t25_7))
def t25_8 := b25_8
theorem u25_8 : vcK P t25_8 k e w = vcK P b25_8 k e w := rfl
abbrev b25_9 : X := (.seq (.reg [4, 5] (.c (.q 52 [] (.mv (.t 8))) (.c (.q 4 [] (.mv (.t 52))) (.c (.q 5 [] (.mv (.c (.bool true)))) .nil)))) .ret)
def t25_9 := b25_9
theorem u25_9 : vcK P t25_9 k e w = vcK P b25_9 k e w := rfl
abbrev b25_10 : X := (.seq (.seq (.reg [6, 8, 9] (.c (.q 9 [] (.mv (.c (.int .i64 1)))) .nil)) t25_8) t25_9)
def t25_10 := b25_10
theorem u25_10 : vcK P t25_10 k e w = vcK P b25_10 k e w := rfl
abbrev b25_11 : X := (.seq (.reg [6, 8] (.c (.q 8 [] (.mv (.s []))) .nil)) t25_10)
def t25_11 := b25_11
theorem u25_11 : vcK P t25_11 k e w = vcK P b25_11 k e w := rfl
abbrev b25_12 : X := (.seq (.seq (.reg [6, 17] (.c (.q 16 [] (.mv (.t 7))) (.c (.q 17 [] (.not (.t 16))) .nil))) t25_1) t25_11)
def t25_12 := b25_12
theorem u25_12 : vcK P t25_12 k e w = vcK P b25_12 k e w := rfl
abbrev b25_13 : X := (.seq (.reg [6, 7] (.c (.q 11 [] (.lda 3 (.t 2))) (.c (.q 12 [] (.mv (.t 1))) (.c (.e (some 13) [] (.call false 24 [(.t 11), (.t 12)])) (.c (.q 10 [] (.mv (.t 13))) (.c (.q 14 [] (.ext 0 (.t 10))) (.c (.q 15 [] (.ext 1 (.t 10))) (.c (.q 6 [] (.mv (.t 14))) (.c (.q 7 [] (.mv (.t 15))) .nil))))))))) t25_12)
def t25_13 := b25_13
theorem u25_13 : vcK P t25_13 k e w = vcK P b25_13 k e w := rfl
abbrev b25_0 : X := (.seq (.reg [1, 2] (.c (.e (some 2) [] (.box 26 (.t 0))) (.c (.q 4 [] (.mv (.s []))) (.c (.q 5 [] (.mv (.c (.bool false)))) .nil)))) t25_13)
def x_iWorkText := b25_0
theorem u25_0 : vcK P x_iWorkText k e w = vcK P b25_0 k e w := rfl
def r_iWorkText : List XO := [(.mv (.t 4)), (.mv (.t 5))]
theorem c_iWorkText : convF Try.prog [147, 148, 152, 160, 162, 163, 170, 178, 206, 208, 210, 224, 233, 235, 236, 251, 264, 265, 268, 270, 287, 322] Try.f25 [([1, 2], []), ([6, 7], []), ([6, 17], []), ([4, 5], []), ([6, 8], []), ([6, 8, 9], []), ([8, 9], [6]), ([6, 8, 9, 21], []), ([6, 8, 9, 26], []), ([6, 8, 9], []), ([6, 8, 9, 39], []), ([6, 8, 9], []), ([6, 8, 9], []), ([6, 8, 9], []), ([4, 5], [])] = some (x_iWorkText, r_iWorkText) := by kernel_rfl
def us_iWorkText :=  (aI (aI (aI @u25_0 (aI @u25_1 @u25_2)) (aI (aI @u25_3 @u25_4) (aI @u25_5 @u25_6))) (aI (aI @u25_7 (aI @u25_8 @u25_9)) (aI (aI @u25_10 @u25_11) (aI @u25_12 @u25_13))))
abbrev b31_1 : X := (.cond (.t 13) (.seq (.reg [4, 5] (.c (.q 4 [] (.mv (.s []))) (.c (.q 5 [] (.mv (.c (.bool false)))) .nil))) .ret) .skip)
def t31_1 := b31_1
theorem u31_1 : vcK P t31_1 k e w = vcK P b31_1 k e w := rfl
abbrev b31_2 : X := (.cond (.t 20) .skip (.exit 0))
def t31_2 := b31_2
theorem u31_2 : vcK P t31_2 k e w = vcK P b31_2 k e w := rfl
abbrev b31_3 : X := (.reg [6, 7, 8] (.c (.q 34 [] (.mv (.t 7))) (.c (.q 35 [] (.mv (.t 9))) (.c (.q 36 [] (.mv (.t 9))) (.c (.q 37 [] (.bin .add (.t 36) (.c (.int .i64 1)))) (.c (.q 38 [] (.sub (.s [92, 61, 47]) (some (.t 35)) (some (.t 37)))) (.c (.q 39 [] (.bin .add (.t 34) (.t 38))) (.c (.q 7 [] (.mv (.t 39))) .nil))))))))
def t31_3 := b31_3
theorem u31_3 : vcK P t31_3 k e w = vcK P b31_3 k e w := rfl
abbrev b31_4 : X := (.reg [6, 7, 8] (.c (.q 21 [] (.mv (.t 8))) (.c (.q 22 [] (.bin .add (.t 21) (.c (.int .i64 1)))) (.c (.q 8 [] (.mv (.t 22))) .nil))))
def t31_4 := b31_4
theorem u31_4 : vcK P t31_4 k e w = vcK P b31_4 k e w := rfl
abbrev b31_5 : X := (.seq (.blk 1 (.seq (.drw [6, 7, 8, 9] (.c (.q 23 [] (.mv (.t 6))) (.c (.q 24 [] (.mv (.t 8))) (.c (.q 25 [] (.ia 1 (.t 23) (.t 24))) (.c (.q 26 [] (.ld (.t 25))) (.c (.q 27 [] (.bin .add (.c (.int .i64 1)) (.t 26))) (.c (.q 28 [] (.mv (.t 6))) (.c (.q 29 [] (.mv (.t 8))) (.c (.q 30 [] (.bin .sub (.t 29) (.c (.int .i64 1)))) (.c (.q 31 [] (.ia 1 (.t 28) (.t 30))) (.c (.q 32 [] (.ld (.t 31))) (.c (.q 33 [] (.bin .sub (.t 27) (.t 32))) (.c (.q 9 [] (.mv (.t 33))) .nil))))))))))))) t31_3)) t31_4)
def t31_5 := b31_5
theorem u31_5 : vcK P t31_5 k e w = vcK P b31_5 k e w := rfl
abbrev b31_6 : X := (.seq (.seq (.reg [6, 7, 8, 20] (.c (.q 17 [] (.mv (.t 8))) (.c (.q 18 [] (.mv (.t 6))) (.c (.q 19 [] (.lens (.t 18))) (.c (.q 20 [] (.bin .lss (.t 17) (.t 19))) .nil))))) t31_2) t31_5)
def t31_6 := b31_6
theorem u31_6 : vcK P t31_6 k e w = vcK P b31_6 k e w := rfl
abbrev b31_7 : X := (.blk 0 (.loop [7, 8] [6] t31_6))
def t31_7 := b31_7
theorem u31_7 : vcK P t31_7 k e w = vcK P b31_7 k e w := rfl
abbrev b31_8 : X := (.seq (.reg [4, 5] (.c (.q 40 [] (.mv (.t 7))) (.c (.q 4 [] (.mv (.t 40))) (.c (.q 5 [] (.mv (.c (.bool true)))) .nil)))) .ret)
def t31_8 := b31_8
theorem u31_8 : vcK P t31_8 k e w = vcK P b31_8 k e w := rfl
abbrev b31_9 : X := (.seq (.seq (.reg [6, 7, 8] (.c (.q 8 [] (.mv (.c (.int .i64 1)))) .nil)) t31_7) t31_8)
def t31_9 := b31_9
theorem u31_9 : vcK P t31_9 k e w = vcK P b31_9 k e w := rfl
abbrev b31_10 : X := (.seq (.reg [6, 7] (.c (.q 7 [] (.mv (.s []))) .nil)) t31_9)
def t31_10 := b31_10
theorem u31_10 : vcK P t31_10 k e w = vcK P b31_10 k e w := rfl
abbrev b31_11 : X := (.seq (.reg [6] (.c (.q 14 [] (.lda 3 (.t 2))) (.c (.q 15 [] (.mv (.t 1))) (.c (.e (some 16) [] (.call false 138 [(.t 14), (.t 15)])) (.c (.q 6 [] (.mv (.t 16))) .nil))))) t31_10)
def t31_11 := b31_11
theorem u31_11 : vcK P t31_11 k e w = vcK P b31_11 k e w := rfl
abbrev b31_12 : X := (.seq (.seq (.reg [1, 2, 13] (.c (.q 10 [] (.lda 3 (.t 2))) (.c (.q 11 [] (.mv (.t 1))) (.c (.e (some 12) [] (.call false 153 [(.t 10), (.t 11)])) (.c (.q 13 [] (.not (.t 12))) .nil))))) t31_1) t31_11)
def t31_12 := b31_12
theorem u31_12 : vcK P t31_12 k e w = vcK P b31_12 k e w := rfl
abbrev b31_0 : X := (.seq (.reg [1, 2] (.c (.e (some 2) [] (.box 26 (.t 0))) (.c (.q 4 [] (.mv (.s []))) (.c (.q 5 [] (.mv (.c (.bool false)))) .nil)))) t31_12)
def x_sWorkText := b31_0
theorem u31_0 : vcK P x_sWorkText k e w = vcK P b31_0 k e w := rfl
def r_sWorkText : List XO := [(.mv (.t 4)), (.mv (.t 5))]
theorem c_sWorkText : convF Try.prog [147, 148, 152, 160, 162, 163, 170, 178, 206, 208, 210, 224, 233, 235, 236, 251, 264, 265, 268, 270, 287, 322] Try.f31 [([1, 2], []), ([1, 2, 13], []), ([4, 5], []), ([6], []), ([6, 7], []), ([6, 7, 8], []), ([7, 8], [6]), ([6, 7, 8, 20], []), ([6, 7, 8, 9], []), ([6, 7, 8], []), ([6, 7, 8], []), ([4, 5], [])] = some (x_sWorkText, r_sWorkText) := by kernel_rfl
def us_sWorkText :=  (aI (aI (aI @u31_0 (aI @u31_1 @u31_2)) (aI @u31_3 (aI @u31_4 @u31_5))) (aI (aI @u31_6 (aI @u31_7 @u31_8)) (aI (aI @u31_9 @u31_10) (aI @u31_11 @u31_12))))
end

def pathsL (n : Nat) (cs : List (List UInt8)) (k : Nat) : List (List Int) := (List.range k).map fun b => pathP (rowsU (roundsL n) cs (cs.length + 1)) ((b + 1 : Nat) : Int)
theorem pathsL_len (n : Nat) (cs : List (List UInt8)) (k : Nat) : (pathsL n cs k).length = k := by simp [pathsL]
theorem pathsL_succ (n : Nat) (cs : List (List UInt8)) (k : Nat) : pathsL n cs (k + 1) = pathsL n cs k ++ [pathP (rowsU (roundsL n) cs (cs.length + 1)) ((k + 1 : Nat) : Int)] := by simp [pathsL, List.range_succ]
theorem pathsL_get (n : Nat) (cs : List (List UInt8)) (k b : Nat) (h : b < k) : (pathsL n cs k).getD b [] = pathP (rowsU (roundsL n) cs (cs.length + 1)) ((b + 1 : Nat) : Int) := by
  unfold pathsL
  rw [List.getD_eq_getElem?_getD, List.getElem?_map, List.getElem?_range h]; rfl
def pathsV (nm : List UInt8) (st : Int) (cs : List (List UInt8)) : List (List Int) := if IsMethod nm st cs then pathsL st.toNat cs st.toNat else []
theorem iPathsOf_ok (nm : List UInt8) (st : Int) (v : Value) (cs : List (List UInt8)) (hnm : nm.length ≤ 1048576) (hs : ∀ c ∈ cs, c.length ≤ 1048576) (hl : cs.length ≤ 1000000000) (w : World) (h : Sq fS 1 w v cs) : Fn 16 [mV nm st v] w (fun r w' => ∃ x, r = .tuple ⟨[x, .bool (decide (IsMethod nm st cs))]⟩ ∧ NestU fI 3 39 w.heap.size w'.heap.size w' x (pathsV nm st cs)) := by
  (refine callsV_of mix Try.func16 c_iPathsOf ?_; simp only [↓vsd, vsn, gW, qd, qv, ev, pick, argE, zipE, ne_eq, eq_self, forall_const, implies_true, if_true, if_false, reduceIte, reduceCtorEq, Nat.reduceEqDiff, Nat.reduceAdd, Nat.reduceLT, ↓us_iPathsOf, r_iPathsOf])
  refine m_al ?_
  rintro b1 w1 hb1 hblk1 hx1 hs1
  have h1 : Blk w1 b1 (fM nm st v) 26 := hblk1
  simp only [↓vsd, vsn, gW, qd, qv, ev, pick, argE, zipE, ne_eq, eq_self, forall_const, implies_true, if_true, if_false, reduceIte, reduceCtorEq, Nat.reduceEqDiff, Nat.reduceAdd, Nat.reduceLT, ↓us_iPathsOf, r_iPathsOf, h1.facts, fMg]
  refine m_call (iGoodMethod_ok nm st v cs hnm hs hl _ (h.ext hx1)) ?_
  rintro _ w2 hx2 rfl
  have hx12 := hx1.trans hx2
  have h2 := h1.ext hx2
  by_cases hm : IsMethod nm st cs
  · obtain ⟨n, rfl⟩ : ∃ n : Nat, st = n := ⟨st.toNat, by have := hm.2.1; omega⟩
    have h38 := hm.2.1
    simp only [↓vsd, vsn, gW, qd, qv, ev, pick, argE, zipE, ne_eq, eq_self, forall_const, implies_true, if_true, if_false, reduceIte, reduceCtorEq, Nat.reduceEqDiff, Nat.reduceAdd, Nat.reduceLT, ↓us_iPathsOf, r_iPathsOf, hm]
    refine m_bsl (by simp) ?_
    rintro b3 w3 hb3 hblk3 hx3 hs3
    have hx3 : Ext w2 w3 := by first | exact hx3 | exact ud hx3 | exact ud (ud hx3)
    simp only [↓vsd, vsn, gW, qd, qv, ev, pick, argE, zipE, ne_eq, eq_self, forall_const, implies_true, if_true, if_false, reduceIte, reduceCtorEq, Nat.reduceEqDiff, Nat.reduceAdd, Nat.reduceLT, ↓us_iPathsOf, r_iPathsOf]
    refine m_upto n (fun i vs w' => ∃ x, vs = [x, .int .i64 (i + 1 : Nat)] ∧ NestU fI 3 39 w2.heap.size w'.heap.size w' x (pathsL n cs i) ∧ Ext w2 w') ⟨_, rfl, ⟨[], Own.empty fSV_len hblk3 (by omega), (fun c hc => by simp only [Value.ownBlock, Option.some.injEq] at hc; rw [← hc]; exact hblk3.lt), rfl, fun i hi => by simp [pathsL] at hi⟩, hx3⟩ ?_
    rintro i vs w5 hi ⟨x, rfl, hN5, hx5⟩
    have hx05 := hx12.trans hx5
    have h5 := h2.ext hx5
    by_cases hlt : i < n
    · have hltI : ((i + 1 : Nat) : Int) ≤ n := by omega
      simp only [↓vsd, vsn, gW, qd, qv, ev, pick, argE, zipE, ne_eq, eq_self, forall_const, implies_true, if_true, if_false, reduceIte, reduceCtorEq, Nat.reduceEqDiff, Nat.reduceAdd, Nat.reduceLT, ↓us_iPathsOf, r_iPathsOf, hltI, h5.facts, fMg]
      refine m_call (ipathOf_ok nm n v cs ((i + 1 : Nat) : Int) hm _ (by first | exact h.ext hx05 | exact h.ext (dr hx05))) ?_
      rintro y w6 hx6 hoy
      have hx6 : Ext w5 w6 := by first | exact hx6 | exact ud hx6 | exact ud (ud hx6)
      obtain ⟨sv, rfl⟩ := hoy.sq.sv
      simp only [↓vsd, vsn, gW, qd, qv, ev, pick, argE, zipE, ne_eq, eq_self, forall_const, implies_true, if_true, if_false, reduceIte, reduceCtorEq, Nat.reduceEqDiff, Nat.reduceAdd, Nat.reduceLT, ↓us_iPathsOf, r_iPathsOf]
      refine m_bsl (one_el sv.csize) ?_
      rintro b7 w7 hb7 hblk7 hx7 hs7
      have hx7 : Ext w6 w7 := by first | exact hx7 | exact ud hx7 | exact ud (ud hx7)
      simp only [↓vsd, vsn, gW, qd, qv, ev, pick, argE, zipE, ne_eq, eq_self, forall_const, implies_true, if_true, if_false, reduceIte, reduceCtorEq, Nat.reduceEqDiff, Nat.reduceAdd, Nat.reduceLT, ↓us_iPathsOf, r_iPathsOf]
      have hblk7 : Blk w7 b7 [sv.v] 39 := by
        have := hblk7
        simpa [SV.cells] using this
      have hx57 := hx6.trans hx7
      have hx27 := hx5.trans hx57
      have hN7 := hN5.ext hx57
      refine m_pushU hN7 (Sq.one fSV_len hblk7 rfl) ((hoy.ext hx7).mono hx5.size) (fun c hc => (hoy.bound c hc).1) hx57.size (by rw [pathsL_len]; omega) rfl (by decide) hx27.size ?_
      rintro x8 w8 hN8 hg8
      have hx28 := ext_grow hx27 hg8 (fun c hc => (hN5.bound c hc).1)
      have e1 : ((i + 1 : Nat) : Int) + 1 = ((i + 1 + 1 : Nat) : Int) := by omega
      simp only [↓vsd, vsn, gW, qd, qv, ev, pick, argE, zipE, ne_eq, eq_self, forall_const, implies_true, if_true, if_false, reduceIte, reduceCtorEq, Nat.reduceEqDiff, Nat.reduceAdd, Nat.reduceLT, ↓us_iPathsOf, r_iPathsOf, e1]
      exact ⟨inR_i64 (by omega), UpTo.next hlt ⟨x8, rfl, hN8.to (pathsL_succ n cs i).symm, hx28⟩⟩
    · obtain rfl : i = n := by omega
      have hltI : ¬ ((i + 1 : Nat) : Int) ≤ i := by omega
      simp only [↓vsd, vsn, gW, qd, qv, ev, pick, argE, zipE, ne_eq, eq_self, forall_const, implies_true, if_true, if_false, reduceIte, reduceCtorEq, Nat.reduceEqDiff, Nat.reduceAdd, Nat.reduceLT, ↓us_iPathsOf, r_iPathsOf, hltI, h5.facts, fMg]
      exact ⟨hx05, x, rfl, by rw [pathsV, if_pos hm, Int.toNat_natCast]; exact hN5.mono hx12.size (Nat.le_refl _)⟩
  · have hD := decide_eq_false hm
    simp only [↓vsd, vsn, gW, qd, qv, ev, pick, argE, zipE, ne_eq, eq_self, forall_const, implies_true, if_true, if_false, reduceIte, reduceCtorEq, Nat.reduceEqDiff, Nat.reduceAdd, Nat.reduceLT, ↓us_iPathsOf, r_iPathsOf, hD]
    exact ⟨hx12, _, rfl, by rw [pathsV, if_neg hm]; exact NestU.nil⟩
theorem sPathsOf_ok (nm : List UInt8) (st : Int) (v : Value) (cs : List (List UInt8)) (hnm : nm.length ≤ 1048576) (hs : ∀ c ∈ cs, c.length ≤ 1048576) (hl : cs.length ≤ 1000000000) (w : World) (h : Sq fS 1 w v cs) : Fn 17 [mV nm st v] w (fun r w' => ∃ x, r = .tuple ⟨[x, .bool (decide (IsMethod nm st cs))]⟩ ∧ NestU fI 3 39 w.heap.size w'.heap.size w' x (pathsV nm st cs)) := by
  (refine callsV_of mix Try.func17 c_sPathsOf ?_; simp only [↓vsd, vsn, gW, qd, qv, ev, pick, argE, zipE, ne_eq, eq_self, forall_const, implies_true, if_true, if_false, reduceIte, reduceCtorEq, Nat.reduceEqDiff, Nat.reduceAdd, Nat.reduceLT, ↓us_sPathsOf, r_sPathsOf])
  refine m_al ?_
  rintro b1 w1 hb1 hblk1 hx1 hs1
  have h1 : Blk w1 b1 (fM nm st v) 26 := hblk1
  simp only [↓vsd, vsn, gW, qd, qv, ev, pick, argE, zipE, ne_eq, eq_self, forall_const, implies_true, if_true, if_false, reduceIte, reduceCtorEq, Nat.reduceEqDiff, Nat.reduceAdd, Nat.reduceLT, ↓us_sPathsOf, r_sPathsOf, h1.facts, fMg]
  refine m_call (sl4Good_ok nm st v cs hnm hs hl _ (h.ext hx1)) ?_
  rintro _ w2 hx2 rfl
  have hx12 := hx1.trans hx2
  have h2 := h1.ext hx2
  by_cases hm : IsMethod nm st cs
  · obtain ⟨n, rfl⟩ : ∃ n : Nat, st = n := ⟨st.toNat, by have := hm.2.1; omega⟩
    have h38 := hm.2.1
    simp only [↓vsd, vsn, gW, qd, qv, ev, pick, argE, zipE, ne_eq, eq_self, forall_const, implies_true, if_true, if_false, reduceIte, reduceCtorEq, Nat.reduceEqDiff, Nat.reduceAdd, Nat.reduceLT, ↓us_sPathsOf, r_sPathsOf, hm]
    refine m_upto n (fun i vs w' => ∃ x, vs = [x, .int .i64 (i + 1 : Nat)] ∧ NestU fI 3 39 w2.heap.size w'.heap.size w' x (pathsL n cs i) ∧ Ext w2 w') ⟨_, rfl, NestU.nil, Ext.refl _⟩ ?_
    rintro i vs w5 hi ⟨x, rfl, hN5, hx5⟩
    have hx05 := hx12.trans hx5
    have h5 := h2.ext hx5
    by_cases hlt : i < n
    · have hltI : ((i + 1 : Nat) : Int) ≤ n := by omega
      simp only [↓vsd, vsn, gW, qd, qv, ev, pick, argE, zipE, ne_eq, eq_self, forall_const, implies_true, if_true, if_false, reduceIte, reduceCtorEq, Nat.reduceEqDiff, Nat.reduceAdd, Nat.reduceLT, ↓us_sPathsOf, r_sPathsOf, hltI, h5.facts, fMg]
      refine m_call (sl5Path_ok nm n v cs ((i + 1 : Nat) : Int) hm _ (by first | exact h.ext hx05 | exact h.ext (dr hx05))) ?_
      rintro y w6 hx6 hoy
      have hx6 : Ext w5 w6 := by first | exact hx6 | exact ud hx6 | exact ud (ud hx6)
      obtain ⟨sv, rfl⟩ := hoy.sq.sv
      simp only [↓vsd, vsn, gW, qd, qv, ev, pick, argE, zipE, ne_eq, eq_self, forall_const, implies_true, if_true, if_false, reduceIte, reduceCtorEq, Nat.reduceEqDiff, Nat.reduceAdd, Nat.reduceLT, ↓us_sPathsOf, r_sPathsOf]
      refine m_bsl (one_el sv.csize) ?_
      rintro b7 w7 hb7 hblk7 hx7 hs7
      have hx7 : Ext w6 w7 := by first | exact hx7 | exact ud hx7 | exact ud (ud hx7)
      simp only [↓vsd, vsn, gW, qd, qv, ev, pick, argE, zipE, ne_eq, eq_self, forall_const, implies_true, if_true, if_false, reduceIte, reduceCtorEq, Nat.reduceEqDiff, Nat.reduceAdd, Nat.reduceLT, ↓us_sPathsOf, r_sPathsOf]
      have hblk7 : Blk w7 b7 [sv.v] 39 := by
        have := hblk7
        simpa [SV.cells] using this
      have hx57 := hx6.trans hx7
      have hx27 := hx5.trans hx57
      have hN7 := hN5.ext hx57
      refine m_pushU hN7 (Sq.one fSV_len hblk7 rfl) ((hoy.ext hx7).mono hx5.size) (fun c hc => (hoy.bound c hc).1) hx57.size (by rw [pathsL_len]; omega) rfl (by decide) hx27.size ?_
      rintro x8 w8 hN8 hg8
      have hx28 := ext_grow hx27 hg8 (fun c hc => (hN5.bound c hc).1)
      have e1 : ((i + 1 : Nat) : Int) + 1 = ((i + 1 + 1 : Nat) : Int) := by omega
      simp only [↓vsd, vsn, gW, qd, qv, ev, pick, argE, zipE, ne_eq, eq_self, forall_const, implies_true, if_true, if_false, reduceIte, reduceCtorEq, Nat.reduceEqDiff, Nat.reduceAdd, Nat.reduceLT, ↓us_sPathsOf, r_sPathsOf, e1]
      exact ⟨inR_i64 (by omega), UpTo.next hlt ⟨x8, rfl, hN8.to (pathsL_succ n cs i).symm, hx28⟩⟩
    · obtain rfl : i = n := by omega
      have hltI : ¬ ((i + 1 : Nat) : Int) ≤ i := by omega
      simp only [↓vsd, vsn, gW, qd, qv, ev, pick, argE, zipE, ne_eq, eq_self, forall_const, implies_true, if_true, if_false, reduceIte, reduceCtorEq, Nat.reduceEqDiff, Nat.reduceAdd, Nat.reduceLT, ↓us_sPathsOf, r_sPathsOf, hltI, h5.facts, fMg]
      exact ⟨hx05, x, rfl, by rw [pathsV, if_pos hm, Int.toNat_natCast]; exact hN5.mono hx12.size (Nat.le_refl _)⟩
  · have hD := decide_eq_false hm
    simp only [↓vsd, vsn, gW, qd, qv, ev, pick, argE, zipE, ne_eq, eq_self, forall_const, implies_true, if_true, if_false, reduceIte, reduceCtorEq, Nat.reduceEqDiff, Nat.reduceAdd, Nat.reduceLT, ↓us_sPathsOf, r_sPathsOf, hD]
    exact ⟨hx12, _, rfl, by rw [pathsV, if_neg hm]; exact NestU.nil⟩
/-- One row of some paths: the first k bells set in their places. -/
def rowK (ls : List (List Int)) (i : Nat) : Nat → List UInt8
  | 0 => List.replicate ls.length 0
  | k + 1 => (rowK ls i k).set (((ls.getD k []).getD i 0).toNat - 1) (UInt8.ofNat (49 + k))
theorem rowK_len (ls : List (List Int)) (i : Nat) : ∀ k, (rowK ls i k).length = ls.length
  | 0 => by simp [rowK]
  | k + 1 => by rw [rowK, List.length_set, rowK_len ls i k]
def rowAt (ls : List (List Int)) (i : Nat) : List UInt8 := rowK ls i ls.length
def rowsAt (ls : List (List Int)) (k : Nat) : List (List UInt8) := (List.range k).map (rowAt ls)
theorem rowsAt_len (ls : List (List Int)) (k : Nat) : (rowsAt ls k).length = k := by simp [rowsAt]
theorem rowsAt_succ (ls : List (List Int)) (k : Nat) : rowsAt ls (k + 1) = rowsAt ls k ++ [rowAt ls k] := by simp [rowsAt, List.range_succ]
/-- All paths are of one length and give rows. -/
def PthsOk (ls : List (List Int)) : Prop := (3 ≤ ls.length ∧ ls.length ≤ 8) ∧ (1 ≤ (ls.getD 0 []).length ∧ (ls.getD 0 []).length ≤ 800) ∧ (∀ b < ls.length, (ls.getD b []).length = (ls.getD 0 []).length) ∧ ∀ i < (ls.getD 0 []).length, (∀ b < ls.length, 1 ≤ (ls.getD b []).getD i 0 ∧ (ls.getD b []).getD i 0 ≤ ls.length) ∧ IsRow (rowAt ls i)
instance (ls : List (List Int)) : Decidable (PthsOk ls) := by unfold PthsOk; infer_instance
def rowsV (ls : List (List Int)) : List (List UInt8) := if PthsOk ls then rowsAt ls (ls.getD 0 []).length else []
theorem byt_eq {b : Nat} (h : b ≤ 100) : (Value.int .u8 (49 + (b : Int))).cells.toList = fU (UInt8.ofNat (49 + b)) := by
  show [Value.int .u8 (49 + (b : Int))] = [Value.int .u8 ((UInt8.ofNat (49 + b)).toNat : Nat)]
  rw [UInt8.toNat_ofNat', Nat.mod_eq_of_lt (by omega)]
  simp
theorem iRowsOf_ok (v : Value) (ls : List (List Int)) (hl : ls.length ≤ 1000000) (hs : ∀ x ∈ ls, x.length ≤ 1000000) (w : World) (h : Sq2 fI w v ls) : Fn 19 [v] w (fun r w' => ∃ x, r = .tuple ⟨[x, .bool (decide (PthsOk ls))]⟩ ∧ Own fS 1 9 w.heap.size w' x (rowsV ls)) := by
  have hno : ¬ PthsOk ls → ∀ w', ∃ x, Value.tuple ⟨[.slice none 0 0, .bool false]⟩ = .tuple ⟨[x, .bool (decide (PthsOk ls))]⟩ ∧ Own fS 1 9 w.heap.size w' x (rowsV ls) := fun hn w' =>
    ⟨_, by rw [decide_eq_false hn], by rw [rowsV, if_neg hn]; exact Own.nil fS_len⟩
  have h0 := h
  obtain ⟨us, hvs, hvl, hvi⟩ := h0
  (refine callsV_of mix Try.func19 c_iRowsOf ?_; simp only [↓vsd, vsn, gW, qd, qv, ev, pick, argE, zipE, ne_eq, eq_self, forall_const, implies_true, if_true, if_false, reduceIte, reduceCtorEq, Nat.reduceEqDiff, Nat.reduceAdd, Nat.reduceLT, ↓us_iRowsOf, r_iRowsOf])
  simp only [↓vsd, vsn, gW, qd, qv, ev, pick, argE, zipE, ne_eq, eq_self, forall_const, implies_true, if_true, if_false, reduceIte, reduceCtorEq, Nat.reduceEqDiff, Nat.reduceAdd, Nat.reduceLT, ↓us_iRowsOf, r_iRowsOf, h.facts]
  refine m_call (iisStage_ok _ _) ?_
  rintro _ w1 hx1 rfl
  have hx1 : Ext w w1 := by first | exact hx1 | exact ud hx1 | exact ud (ud hx1)
  have hq1 := h.ext hx1
  by_cases hst : 3 ≤ ls.length ∧ ls.length ≤ 8
  · have hst1 : (3 : Int) ≤ ls.length := by omega
    have hst2 : (ls.length : Int) ≤ 8 := by omega
    have hst3 : (0 : Int) < ls.length := by omega
    have hat : ∀ w', Ext w1 w' → ∀ b < ls.length, (∀ k : IntKind, ldV w' (iaV 1 v (.int k b)) = (us.getD b SV.nil).v ∧ ldD w' (iaV 1 v (.int k b)) = True) ∧ Sq fI 1 w' (us.getD b SV.nil).v (ls.getD b []) := fun w' hx b hb => ⟨(hvs.ext (hx1.trans hx)).at1 SV.nil (by omega), (hvi b hb).ext (hx1.trans hx)⟩
    have hat0 : ∀ w', Ext w1 w' → (∀ k : IntKind, ldV w' (iaV 1 v (.int k 0)) = (us.getD 0 SV.nil).v ∧ ldD w' (iaV 1 v (.int k 0)) = True) ∧ Sq fI 1 w' (us.getD 0 SV.nil).v (ls.getD 0 []) := fun w' hx => hat w' hx 0 (by omega)
    have a0 := hat0 w1 (Ext.refl _)
    have a01 := a0.1
    simp only [↓vsd, vsn, gW, qd, qv, ev, pick, argE, zipE, ne_eq, eq_self, forall_const, implies_true, if_true, if_false, reduceIte, reduceCtorEq, Nat.reduceEqDiff, Nat.reduceAdd, Nat.reduceLT, ↓us_iRowsOf, r_iRowsOf, hst1, hst2, hst3, hq1.facts, a01, a0.2.facts]
    refine ⟨by omega, fun _ => by omega, fun hbad => ⟨hx1, hno (fun hh => by have := hh.2.1; omega) _⟩, fun h800 => ?_⟩
    refine m_upto ls.length (fun k vs w' => vs = [.int .i64 k] ∧ (∀ b < k, (ls.getD b []).length = (ls.getD 0 []).length) ∧ Ext w1 w') ⟨rfl, fun b hb => by omega, Ext.refl _⟩ ?_
    rintro k vs w2 hk ⟨rfl, hall, hx2⟩
    have hq2 := hq1.ext hx2
    have a0 := hat0 w2 hx2
    have a01 := a0.1
    have a0f := a0.2.facts
    by_cases hlt : k < ls.length
    · have hltI : (k : Int) < ls.length := by omega
      have hltJ : ¬ (ls.length : Int) ≤ k := by omega
      have a2 := hat w2 hx2 k hlt
      have a21 := a2.1
      have a2f := a2.2.facts
      simp only [↓vsd, vsn, gW, qd, qv, ev, pick, argE, zipE, ne_eq, eq_self, forall_const, implies_true, if_true, if_false, reduceIte, reduceCtorEq, Nat.reduceEqDiff, Nat.reduceAdd, Nat.reduceLT, ↓us_iRowsOf, r_iRowsOf, hltI, hltJ, hst3, hq2.facts, a01, a21, a0f, a2f]
      refine ⟨by omega, by omega, fun hne => ⟨hx1.trans hx2, hno (fun hh => hne (by rw [hh.2.2.1 k hlt])) _⟩, fun heq => ⟨inR_i64 (by omega), UpTo.next hlt ⟨by simp, fun b hb => ?_, by first | exact hx2 | exact dr hx2⟩⟩⟩
      by_cases hbk : b = k
      · subst hbk; omega
      · exact hall b (by omega)
    · obtain rfl : k = ls.length := by omega
      have hltI : ¬ (ls.length : Int) < ls.length := by omega
      simp only [↓vsd, vsn, gW, qd, qv, ev, pick, argE, zipE, ne_eq, eq_self, forall_const, implies_true, if_true, if_false, reduceIte, reduceCtorEq, Nat.reduceEqDiff, Nat.reduceAdd, Nat.reduceLT, ↓us_iRowsOf, r_iRowsOf, hltI]
      refine m_bsl (by simp) ?_
      rintro b3 w3 hb3 hblk3 hx3 hs3
      have hx3 : Ext w2 w3 := by first | exact hx3 | exact ud hx3 | exact ud (ud hx3)
      have hx23 := hx2.trans hx3
      have hx03 := hx1.trans hx23
      have hq3 := hq2.ext hx3
      have a3 := hat0 w3 hx23
      have a31 := a3.1
      have a3f := a3.2.facts
      simp only [↓vsd, vsn, gW, qd, qv, ev, pick, argE, zipE, ne_eq, eq_self, forall_const, implies_true, if_true, if_false, reduceIte, reduceCtorEq, Nat.reduceEqDiff, Nat.reduceAdd, Nat.reduceLT, ↓us_iRowsOf, r_iRowsOf, hst3, hq3.facts, a01, a31, a3f]
      refine ⟨by omega, ?_⟩
      generalize hL0 : (ls.getD 0 []).length = L0 at *
      refine m_upto L0 (fun i vs w' => ∃ x, vs = [x, .int .i64 i] ∧ Own fS 1 9 w2.heap.size w' x (rowsAt ls i) ∧ (∀ j < i, (∀ b < ls.length, 1 ≤ (ls.getD b []).getD j 0 ∧ (ls.getD b []).getD j 0 ≤ ls.length) ∧ IsRow (rowAt ls j)) ∧ Ext w2 w') ⟨_, rfl, (Own.empty fS_len hblk3 (by omega)).to rfl, fun j hj => by omega, hx3⟩ ?_
      rintro i vs w4 hi ⟨x, rfl, ho4, hgood, hx4⟩
      have hx04 := hx2.trans hx4
      by_cases hlt2 : i < L0
      · have hlt2I : (i : Int) < L0 := by omega
        simp only [↓vsd, vsn, gW, qd, qv, ev, pick, argE, zipE, ne_eq, eq_self, forall_const, implies_true, if_true, if_false, reduceIte, reduceCtorEq, Nat.reduceEqDiff, Nat.reduceAdd, Nat.reduceLT, ↓us_iRowsOf, r_iRowsOf, hlt2I]
        refine m_msl (f := fU) (B := w4.heap.size) 0 fU_len rfl (by omega) (by decide) (Nat.le_refl _) ?_
        rintro y w5 hoy hyb hx5
        have hx5 : Ext w4 w5 := by first | exact hx5 | exact ud hx5 | exact ud (ud hx5)
        have hq5 := h.ext ((hx1.trans hx04).trans hx5)
        simp only [↓vsd, vsn, gW, qd, qv, ev, pick, argE, zipE, ne_eq, eq_self, forall_const, implies_true, if_true, if_false, reduceIte, reduceCtorEq, Nat.reduceEqDiff, Nat.reduceAdd, Nat.reduceLT, ↓us_iRowsOf, r_iRowsOf, hq5.facts]
        refine m_upto ls.length (fun b vs w' => vs = [.int .i64 b] ∧ Own fU 1 5 w4.heap.size w' y (rowK ls i b) ∧ (∀ b' < b, 1 ≤ (ls.getD b' []).getD i 0 ∧ (ls.getD b' []).getD i 0 ≤ ls.length) ∧ Ext w4 w') ⟨rfl, hoy.to (by rw [rowK]), fun b hb => by omega, hx5⟩ ?_
        rintro b vs w6 hb ⟨rfl, hoy6, hin6, hx6⟩
        have hx06 := hx04.trans hx6
        have hq6 := h.ext (hx1.trans hx06)
        by_cases hlt3 : b < ls.length
        · have hlt3I : (b : Int) < ls.length := by omega
          have hlt3J : ¬ (ls.length : Int) ≤ b := by omega
          have a6 := hat w6 hx06 b hlt3
          have a61 := a6.1
          have a6f := a6.2.facts
          have hbl : (ls.getD b []).length = L0 := hall b hlt3
          have e6 := a6.2.at1 0 (i := i) (by omega)
          have hyf := hoy6.sq.facts
          rw [rowK_len] at hyf
          simp only [↓vsd, vsn, gW, qd, qv, ev, pick, argE, zipE, ne_eq, eq_self, forall_const, implies_true, if_true, if_false, reduceIte, reduceCtorEq, Nat.reduceEqDiff, Nat.reduceAdd, Nat.reduceLT, ↓us_iRowsOf, r_iRowsOf, hlt3I, hlt3J, hq6.facts, a61, a6f, e6, fI_get]
          refine ⟨by omega, ⟨by omega, by omega⟩, ?_⟩
          refine m_call (iisBell_ok _ _ _) ?_
          rintro _ w7 hx7 rfl
          have hx7 : Ext w6 w7 := by first | exact hx7 | exact ud hx7 | exact ud (ud hx7)
          have hx67 := hx6.trans hx7
          have hoy7 := hoy6.ext hx7
          have hx07 := hx06.trans hx7
          have hq7 := h.ext (hx1.trans hx07)
          have a7 := hat w7 hx07 b hlt3
          have a71 := a7.1
          have a7f := a7.2.facts
          have e7 := a7.2.at1 0 (i := i) (by omega)
          have hyf := hoy7.sq.facts
          rw [rowK_len] at hyf
          by_cases hbl2 : 1 ≤ (ls.getD b []).getD i 0 ∧ (ls.getD b []).getD i 0 ≤ ls.length
          · obtain ⟨p, hp⟩ : ∃ p : Nat, (ls.getD b []).getD i 0 = ((p + 1 : Nat) : Int) := ⟨((ls.getD b []).getD i 0).toNat - 1, by omega⟩
            rw [hp] at e6 e7 hbl2 ⊢
            have hb1 := hbl2.1
            have hb2 := hbl2.2
            have ep : ((p + 1 : Nat) : Int) - 1 = (p : Int) := by omega
            simp only [↓vsd, vsn, gW, qd, qv, ev, pick, argE, zipE, ne_eq, eq_self, forall_const, implies_true, if_true, if_false, reduceIte, reduceCtorEq, Nat.reduceEqDiff, Nat.reduceAdd, Nat.reduceLT, ↓us_iRowsOf, r_iRowsOf, hb1, hb2, hq7.facts, a71, a7f, e7, fI_get, hyf, ep, a61, e6]
            refine ⟨⟨by omega, by omega⟩, inR_i64 (by omega), inR_i64 (by omega), inR_u8 (by omega), ⟨by omega, by omega⟩, ?_⟩
            refine m_set1 p (UInt8.ofNat (49 + b)) hoy7 rfl (by rw [rowK_len]; omega) (byt_eq (by omega)) fU_one ?_
            rintro w8 hoy8 hg8 hs8
            have hyw : ∀ c, y.ownBlock = some c → w4.heap.size ≤ c := fun c hc => (hoy.bound c hc).1
            have hx8 := ext_grow hx67 hg8 hyw
            simp only [↓vsd, vsn, gW, qd, qv, ev, pick, argE, zipE, ne_eq, eq_self, forall_const, implies_true, if_true, if_false, reduceIte, reduceCtorEq, Nat.reduceEqDiff, Nat.reduceAdd, Nat.reduceLT, ↓us_iRowsOf, r_iRowsOf]
            exact ⟨inR_i64 (by omega), UpTo.next hlt3 ⟨by simp, hoy8.to (by rw [rowK, hp]; rfl), fun b' hb' => by
              by_cases hbb : b' = b
              · subst hbb; rw [hp]; exact hbl2
              · exact hin6 b' (by omega), hx8⟩⟩
          · have hD : (decide (1 ≤ (ls.getD b []).getD i 0) && decide ((ls.getD b []).getD i 0 ≤ ls.length)) = false := by rw [← Bool.decide_and]; exact decide_eq_false hbl2
            simp only [↓vsd, vsn, gW, qd, qv, ev, pick, argE, zipE, ne_eq, eq_self, forall_const, implies_true, if_true, if_false, reduceIte, reduceCtorEq, Nat.reduceEqDiff, Nat.reduceAdd, Nat.reduceLT, ↓us_iRowsOf, r_iRowsOf, hD]
            exact ⟨hx1.trans hx07, hno (fun hh => hbl2 ((hh.2.2.2 i (by rw [hL0]; exact hlt2)).1 b hlt3)) _⟩
        · obtain rfl : b = ls.length := by omega
          have hlt3I : ¬ (ls.length : Int) < ls.length := by omega
          simp only [↓vsd, vsn, gW, qd, qv, ev, pick, argE, zipE, ne_eq, eq_self, forall_const, implies_true, if_true, if_false, reduceIte, reduceCtorEq, Nat.reduceEqDiff, Nat.reduceAdd, Nat.reduceLT, ↓us_iRowsOf, r_iRowsOf, hlt3I]
          refine m_b2s hoy6.sq ?_
          simp only [↓vsd, vsn, gW, qd, qv, ev, pick, argE, zipE, ne_eq, eq_self, forall_const, implies_true, if_true, if_false, reduceIte, reduceCtorEq, Nat.reduceEqDiff, Nat.reduceAdd, Nat.reduceLT, ↓us_iRowsOf, r_iRowsOf]
          refine m_call (iGoodRow_ok _ _) ?_
          rintro _ w7 hx7 rfl
          have hx7 : Ext w6 w7 := by first | exact hx7 | exact ud hx7 | exact ud (ud hx7)
          have hx07 := hx06.trans hx7
          by_cases hR : IsRow (rowAt ls i)
          · have hD := decide_eq_true hR
            unfold rowAt at hD
            simp only [↓vsd, vsn, gW, qd, qv, ev, pick, argE, zipE, ne_eq, eq_self, forall_const, implies_true, if_true, if_false, reduceIte, reduceCtorEq, Nat.reduceEqDiff, Nat.reduceAdd, Nat.reduceLT, ↓us_iRowsOf, r_iRowsOf, hD]
            refine m_b2s (hoy6.ext hx7).sq ?_
            simp only [↓vsd, vsn, gW, qd, qv, ev, pick, argE, zipE, ne_eq, eq_self, forall_const, implies_true, if_true, if_false, reduceIte, reduceCtorEq, Nat.reduceEqDiff, Nat.reduceAdd, Nat.reduceLT, ↓us_iRowsOf, r_iRowsOf]
            refine m_bsl (one_el rfl) ?_
            rintro b8 w8 hb8 hblk8 hx8 hs8
            have hx8 : Ext w7 w8 := by first | exact hx8 | exact ud hx8 | exact ud (ud hx8)
            simp only [↓vsd, vsn, gW, qd, qv, ev, pick, argE, zipE, ne_eq, eq_self, forall_const, implies_true, if_true, if_false, reduceIte, reduceCtorEq, Nat.reduceEqDiff, Nat.reduceAdd, Nat.reduceLT, ↓us_iRowsOf, r_iRowsOf]
            have hx48 := (hx6.trans hx7).trans hx8
            refine m_app (ho4.ext hx48) (Sq.one fS_len hblk8 rfl) fS_one (by decide) (by rw [rowsAt_len, List.length_singleton]; omega) (by decide) (hx4.trans hx48).size ?_
            rintro z w9 ho9 hg9
            have hx9 := (ho4.ext hx48).grown (hx4.trans hx48) (Nat.le_refl _) hg9
            simp only [↓vsd, vsn, gW, qd, qv, ev, pick, argE, zipE, ne_eq, eq_self, forall_const, implies_true, if_true, if_false, reduceIte, reduceCtorEq, Nat.reduceEqDiff, Nat.reduceAdd, Nat.reduceLT, ↓us_iRowsOf, r_iRowsOf]
            exact ⟨inR_i64 (by omega), UpTo.next hlt2 ⟨z, rfl, ho9.to (rowsAt_succ ls i).symm, fun j hj => by
              by_cases hji : j = i
              · subst hji; exact ⟨hin6, hR⟩
              · exact hgood j (by omega), hx9⟩⟩
          · have hD := decide_eq_false hR
            unfold rowAt at hD
            simp only [↓vsd, vsn, gW, qd, qv, ev, pick, argE, zipE, ne_eq, eq_self, forall_const, implies_true, if_true, if_false, reduceIte, reduceCtorEq, Nat.reduceEqDiff, Nat.reduceAdd, Nat.reduceLT, ↓us_iRowsOf, r_iRowsOf, hD]
            exact ⟨hx1.trans hx07, hno (fun hh => hR (hh.2.2.2 i (by rw [hL0]; exact hlt2)).2) _⟩
      · obtain rfl : i = L0 := by omega
        have hlt2I : ¬ (i : Int) < i := by omega
        have hok : PthsOk ls := ⟨hst, by rw [hL0]; omega, by rw [hL0]; exact hall, by rw [hL0]; exact hgood⟩
        simp only [↓vsd, vsn, gW, qd, qv, ev, pick, argE, zipE, ne_eq, eq_self, forall_const, implies_true, if_true, if_false, reduceIte, reduceCtorEq, Nat.reduceEqDiff, Nat.reduceAdd, Nat.reduceLT, ↓us_iRowsOf, r_iRowsOf, hlt2I]
        exact ⟨hx1.trans hx04, x, by rw [decide_eq_true hok], by rw [rowsV, if_pos hok, hL0]; exact ho4.mono (hx1.trans hx2).size⟩
  · have hD : (decide ((3 : Int) ≤ ls.length) && decide ((ls.length : Int) ≤ 8)) = false := by
      rw [Bool.and_eq_false_iff, decide_eq_false_iff_not, decide_eq_false_iff_not]; omega
    simp only [↓vsd, vsn, gW, qd, qv, ev, pick, argE, zipE, ne_eq, eq_self, forall_const, implies_true, if_true, if_false, reduceIte, reduceCtorEq, Nat.reduceEqDiff, Nat.reduceAdd, Nat.reduceLT, ↓us_iRowsOf, r_iRowsOf, hD]
    exact ⟨hx1, hno (fun hh => hst hh.1) _⟩
theorem sRowsOf_ok (v : Value) (ls : List (List Int)) (hl : ls.length ≤ 1000000) (hs : ∀ x ∈ ls, x.length ≤ 1000000) (w : World) (h : Sq2 fI w v ls) : Fn 28 [v] w (fun r w' => ∃ x, r = .tuple ⟨[x, .bool (decide (PthsOk ls))]⟩ ∧ Own fS 1 9 w.heap.size w' x (rowsV ls)) := by
  have hno : ¬ PthsOk ls → ∀ w', ∃ x, Value.tuple ⟨[.slice none 0 0, .bool false]⟩ = .tuple ⟨[x, .bool (decide (PthsOk ls))]⟩ ∧ Own fS 1 9 w.heap.size w' x (rowsV ls) := fun hn w' =>
    ⟨_, by rw [decide_eq_false hn], by rw [rowsV, if_neg hn]; exact Own.nil fS_len⟩
  have h0 := h
  obtain ⟨us, hvs, hvl, hvi⟩ := h0
  (refine callsV_of mix Try.func28 c_sRowsOf ?_; simp only [↓vsd, vsn, gW, qd, qv, ev, pick, argE, zipE, ne_eq, eq_self, forall_const, implies_true, if_true, if_false, reduceIte, reduceCtorEq, Nat.reduceEqDiff, Nat.reduceAdd, Nat.reduceLT, ↓us_sRowsOf, r_sRowsOf])
  simp only [↓vsd, vsn, gW, qd, qv, ev, pick, argE, zipE, ne_eq, eq_self, forall_const, implies_true, if_true, if_false, reduceIte, reduceCtorEq, Nat.reduceEqDiff, Nat.reduceAdd, Nat.reduceLT, ↓us_sRowsOf, r_sRowsOf, h.facts]
  refine m_call (sl1In_ok _ _ _ _) ?_
  rintro _ w1 hx1 rfl
  have hx1 : Ext w w1 := by first | exact hx1 | exact ud hx1 | exact ud (ud hx1)
  have hq1 := h.ext hx1
  by_cases hst : 3 ≤ ls.length ∧ ls.length ≤ 8
  · have hst1 : (3 : Int) ≤ ls.length := by omega
    have hst2 : (ls.length : Int) ≤ 8 := by omega
    have hst3 : (0 : Int) < ls.length := by omega
    have hat : ∀ w', Ext w1 w' → ∀ b < ls.length, (∀ k : IntKind, ldV w' (iaV 1 v (.int k b)) = (us.getD b SV.nil).v ∧ ldD w' (iaV 1 v (.int k b)) = True) ∧ Sq fI 1 w' (us.getD b SV.nil).v (ls.getD b []) := fun w' hx b hb => ⟨(hvs.ext (hx1.trans hx)).at1 SV.nil (by omega), (hvi b hb).ext (hx1.trans hx)⟩
    have hat0 : ∀ w', Ext w1 w' → (∀ k : IntKind, ldV w' (iaV 1 v (.int k 0)) = (us.getD 0 SV.nil).v ∧ ldD w' (iaV 1 v (.int k 0)) = True) ∧ Sq fI 1 w' (us.getD 0 SV.nil).v (ls.getD 0 []) := fun w' hx => hat w' hx 0 (by omega)
    have a0 := hat0 w1 (Ext.refl _)
    have a01 := a0.1
    simp only [↓vsd, vsn, gW, qd, qv, ev, pick, argE, zipE, ne_eq, eq_self, forall_const, implies_true, if_true, if_false, reduceIte, reduceCtorEq, Nat.reduceEqDiff, Nat.reduceAdd, Nat.reduceLT, ↓us_sRowsOf, r_sRowsOf, hst1, hst2, hst3, hq1.facts, a01, a0.2.facts]
    refine ⟨by omega, m_call (sl1In_ok _ _ _ _) ?_⟩
    rintro _ w11 hx11 rfl
    have hx11 : Ext w1 w11 := by first | exact hx11 | exact ud hx11 | exact ud (ud hx11)
    by_cases h800 : ¬ (1 ≤ (ls.getD 0 []).length ∧ (ls.getD 0 []).length ≤ 800)
    · have hD : (decide ((1 : Int) ≤ (ls.getD 0 []).length) && decide (((ls.getD 0 []).length : Int) ≤ 800)) = false := by
        rw [Bool.and_eq_false_iff, decide_eq_false_iff_not, decide_eq_false_iff_not]; omega
      simp only [↓vsd, vsn, gW, qd, qv, ev, pick, argE, zipE, ne_eq, eq_self, forall_const, implies_true, if_true, if_false, reduceIte, reduceCtorEq, Nat.reduceEqDiff, Nat.reduceAdd, Nat.reduceLT, ↓us_sRowsOf, r_sRowsOf, hD]
      exact ⟨hx1.trans hx11, hno (fun hh => h800 hh.2.1) _⟩
    have h800 := Classical.not_not.1 h800
    have hD1 : (1 : Int) ≤ (ls.getD 0 []).length := by omega
    have hD2 : ((ls.getD 0 []).length : Int) ≤ 800 := by omega
    simp only [↓vsd, vsn, gW, qd, qv, ev, pick, argE, zipE, ne_eq, eq_self, forall_const, implies_true, if_true, if_false, reduceIte, reduceCtorEq, Nat.reduceEqDiff, Nat.reduceAdd, Nat.reduceLT, ↓us_sRowsOf, r_sRowsOf, hD1, hD2, hq1.facts]
    refine m_upto ls.length (fun k vs w' => vs = [.int .i64 k] ∧ (∀ b < k, (ls.getD b []).length = (ls.getD 0 []).length ∧ ∀ x ∈ ls.getD b [], 1 ≤ x ∧ x ≤ (ls.length : Int)) ∧ Ext w1 w') ⟨rfl, fun b hb => by omega, hx11⟩ ?_
    rintro k vs w2 hk ⟨rfl, hall, hx2⟩
    have hq2 := hq1.ext hx2
    have a0 := hat0 w2 hx2
    have a01 := a0.1
    have a0f := a0.2.facts
    by_cases hlt : k < ls.length
    · have hltI : (k : Int) < ls.length := by omega
      have hltJ : ¬ (ls.length : Int) ≤ k := by omega
      have a2 := hat w2 hx2 k hlt
      have a21 := a2.1
      have a2f := a2.2.facts
      simp only [↓vsd, vsn, gW, qd, qv, ev, pick, argE, zipE, ne_eq, eq_self, forall_const, implies_true, if_true, if_false, reduceIte, reduceCtorEq, Nat.reduceEqDiff, Nat.reduceAdd, Nat.reduceLT, ↓us_sRowsOf, r_sRowsOf, hltI, hltJ, hst3, hq2.facts, a01, a21, a0f, a2f]
      refine ⟨by omega, by omega, fun heq => ?_, fun hne => ⟨hx1.trans hx2, hno (fun hh => hne (by rw [hh.2.2.1 k hlt])) _⟩⟩
      refine m_call (sl1All_okp _ (ls.getD k []) _ _ (by have := hs _ (getD_mem [] hlt); omega) _ (by first | exact a2.2 | exact a2.2.ext (dr (Ext.refl _)))) ?_
      rintro _ w22 hx22 rfl
      have hx22 : Ext w2 w22 := by first | exact hx22 | exact ud hx22 | exact ud (ud hx22)
      have hx222 := hx2.trans hx22
      by_cases hAl : ∀ p ∈ ls.getD k [], 1 ≤ p ∧ p ≤ (ls.length : Int)
      · have hD := decide_eq_true hAl
        have heqI : ((ls.getD k []).length : Int) = (ls.getD 0 []).length := by omega
        simp only [↓vsd, vsn, gW, qd, qv, ev, pick, argE, zipE, ne_eq, eq_self, forall_const, implies_true, if_true, if_false, reduceIte, reduceCtorEq, Nat.reduceEqDiff, Nat.reduceAdd, Nat.reduceLT, ↓us_sRowsOf, r_sRowsOf, hD, heqI]
        exact ⟨inR_i64 (by omega), UpTo.next hlt ⟨by simp, fun b hb => by
          by_cases hbk : b = k
          · subst hbk; exact ⟨by omega, hAl⟩
          · exact hall b (by omega), hx222⟩⟩
      · have hD := decide_eq_false hAl
        simp only [↓vsd, vsn, gW, qd, qv, ev, pick, argE, zipE, ne_eq, eq_self, forall_const, implies_true, if_true, if_false, reduceIte, reduceCtorEq, Nat.reduceEqDiff, Nat.reduceAdd, Nat.reduceLT, ↓us_sRowsOf, r_sRowsOf, hD]
        exact ⟨hx1.trans hx222, hno (fun hh => hAl fun p hp => by
          obtain ⟨i, hi, rfl⟩ := List.getElem_of_mem hp
          have := (hh.2.2.2 i (by have := hh.2.2.1 k hlt; omega)).1 k hlt
          rwa [List.getD_eq_getElem?_getD (l := ls.getD k []), List.getElem?_eq_getElem hi] at this) _⟩
    · obtain rfl : k = ls.length := by omega
      have hltI : ¬ (ls.length : Int) < ls.length := by omega
      have hx23 := hx2
      have hx03 := hx1.trans hx23
      simp only [↓vsd, vsn, gW, qd, qv, ev, pick, argE, zipE, ne_eq, eq_self, forall_const, implies_true, if_true, if_false, reduceIte, reduceCtorEq, Nat.reduceEqDiff, Nat.reduceAdd, Nat.reduceLT, ↓us_sRowsOf, r_sRowsOf, hltI, hst3, hq2.facts, a01, a0f]
      refine ⟨by omega, ?_⟩
      generalize hL0 : (ls.getD 0 []).length = L0 at *
      refine m_upto L0 (fun i vs w' => ∃ x, vs = [x, .int .i64 i] ∧ Own fS 1 9 w2.heap.size w' x (rowsAt ls i) ∧ (∀ j < i, (∀ b < ls.length, 1 ≤ (ls.getD b []).getD j 0 ∧ (ls.getD b []).getD j 0 ≤ ls.length) ∧ IsRow (rowAt ls j)) ∧ Ext w2 w') ⟨_, rfl, (Own.nil fS_len).to rfl, fun j hj => by omega, Ext.refl _⟩ ?_
      rintro i vs w4 hi ⟨x, rfl, ho4, hgood, hx4⟩
      have hx04 := hx2.trans hx4
      by_cases hlt2 : i < L0
      · have hlt2I : (i : Int) < L0 := by omega
        simp only [↓vsd, vsn, gW, qd, qv, ev, pick, argE, zipE, ne_eq, eq_self, forall_const, implies_true, if_true, if_false, reduceIte, reduceCtorEq, Nat.reduceEqDiff, Nat.reduceAdd, Nat.reduceLT, ↓us_sRowsOf, r_sRowsOf, hlt2I]
        refine m_msl (f := fU) (B := w4.heap.size) 0 fU_len rfl (by omega) (by decide) (Nat.le_refl _) ?_
        rintro y w5 hoy hyb hx5
        have hx5 : Ext w4 w5 := by first | exact hx5 | exact ud hx5 | exact ud (ud hx5)
        have hq5 := h.ext ((hx1.trans hx04).trans hx5)
        simp only [↓vsd, vsn, gW, qd, qv, ev, pick, argE, zipE, ne_eq, eq_self, forall_const, implies_true, if_true, if_false, reduceIte, reduceCtorEq, Nat.reduceEqDiff, Nat.reduceAdd, Nat.reduceLT, ↓us_sRowsOf, r_sRowsOf, hq5.facts]
        refine m_upto ls.length (fun b vs w' => vs = [.int .i64 b] ∧ Own fU 1 5 w4.heap.size w' y (rowK ls i b) ∧ (∀ b' < b, 1 ≤ (ls.getD b' []).getD i 0 ∧ (ls.getD b' []).getD i 0 ≤ ls.length) ∧ Ext w4 w') ⟨rfl, hoy.to (by rw [rowK]), fun b hb => by omega, hx5⟩ ?_
        rintro b vs w6 hb ⟨rfl, hoy6, hin6, hx6⟩
        have hx06 := hx04.trans hx6
        have hq6 := h.ext (hx1.trans hx06)
        by_cases hlt3 : b < ls.length
        · have hlt3I : (b : Int) < ls.length := by omega
          have hlt3J : ¬ (ls.length : Int) ≤ b := by omega
          have a6 := hat w6 hx06 b hlt3
          have a61 := a6.1
          have a6f := a6.2.facts
          have hbl : (ls.getD b []).length = L0 := (hall b hlt3).1
          have e6 := a6.2.at1 0 (i := i) (by omega)
          have hyf := hoy6.sq.facts
          rw [rowK_len] at hyf
          have hbl2 : 1 ≤ (ls.getD b []).getD i 0 ∧ (ls.getD b []).getD i 0 ≤ (ls.length : Int) := (hall b hlt3).2 _ (by rw [List.getD_eq_getElem?_getD (l := ls.getD b []), List.getElem?_eq_getElem (show i < (ls.getD b []).length by omega)]; exact List.getElem_mem _)
          obtain ⟨p, hp⟩ : ∃ p : Nat, (ls.getD b []).getD i 0 = ((p + 1 : Nat) : Int) := ⟨((ls.getD b []).getD i 0).toNat - 1, by omega⟩
          rw [hp] at e6 hbl2
          have ep : ((p + 1 : Nat) : Int) - 1 = (p : Int) := by omega
          simp only [↓vsd, vsn, gW, qd, qv, ev, pick, argE, zipE, ne_eq, eq_self, forall_const, implies_true, if_true, if_false, reduceIte, reduceCtorEq, Nat.reduceEqDiff, Nat.reduceAdd, Nat.reduceLT, ↓us_sRowsOf, r_sRowsOf, hlt3I, hlt3J, hq6.facts, a61, a6f, e6, fI_get, hyf, ep]
          refine ⟨by omega, ⟨by omega, by omega⟩, inR_i64 (by omega), inR_i64 (by omega), inR_u8 (by omega), ⟨by omega, by omega⟩, ?_⟩
          refine m_set1 p (UInt8.ofNat (49 + b)) hoy6 rfl (by rw [rowK_len]; omega) (byt_eq (by omega)) fU_one ?_
          rintro w8 hoy8 hg8 hs8
          have hyw : ∀ c, y.ownBlock = some c → w4.heap.size ≤ c := fun c hc => (hoy.bound c hc).1
          have hx8 := ext_grow hx6 hg8 hyw
          simp only [↓vsd, vsn, gW, qd, qv, ev, pick, argE, zipE, ne_eq, eq_self, forall_const, implies_true, if_true, if_false, reduceIte, reduceCtorEq, Nat.reduceEqDiff, Nat.reduceAdd, Nat.reduceLT, ↓us_sRowsOf, r_sRowsOf]
          exact ⟨inR_i64 (by omega), UpTo.next hlt3 ⟨by simp, hoy8.to (by rw [rowK, hp]; rfl), fun b' hb' => by
            by_cases hbb : b' = b
            · subst hbb; rw [hp]; exact hbl2
            · exact hin6 b' (by omega), hx8⟩⟩
        · obtain rfl : b = ls.length := by omega
          have hlt3I : ¬ (ls.length : Int) < ls.length := by omega
          simp only [↓vsd, vsn, gW, qd, qv, ev, pick, argE, zipE, ne_eq, eq_self, forall_const, implies_true, if_true, if_false, reduceIte, reduceCtorEq, Nat.reduceEqDiff, Nat.reduceAdd, Nat.reduceLT, ↓us_sRowsOf, r_sRowsOf, hlt3I]
          refine m_b2s hoy6.sq ?_
          simp only [↓vsd, vsn, gW, qd, qv, ev, pick, argE, zipE, ne_eq, eq_self, forall_const, implies_true, if_true, if_false, reduceIte, reduceCtorEq, Nat.reduceEqDiff, Nat.reduceAdd, Nat.reduceLT, ↓us_sRowsOf, r_sRowsOf]
          refine m_call (sl1Row_ok _ _) ?_
          rintro _ w7 hx7 rfl
          have hx7 : Ext w6 w7 := by first | exact hx7 | exact ud hx7 | exact ud (ud hx7)
          have hx07 := hx06.trans hx7
          by_cases hR : IsRow (rowAt ls i)
          · have hD := decide_eq_true hR
            unfold rowAt at hD
            simp only [↓vsd, vsn, gW, qd, qv, ev, pick, argE, zipE, ne_eq, eq_self, forall_const, implies_true, if_true, if_false, reduceIte, reduceCtorEq, Nat.reduceEqDiff, Nat.reduceAdd, Nat.reduceLT, ↓us_sRowsOf, r_sRowsOf, hD]
            refine m_b2s (hoy6.ext hx7).sq ?_
            simp only [↓vsd, vsn, gW, qd, qv, ev, pick, argE, zipE, ne_eq, eq_self, forall_const, implies_true, if_true, if_false, reduceIte, reduceCtorEq, Nat.reduceEqDiff, Nat.reduceAdd, Nat.reduceLT, ↓us_sRowsOf, r_sRowsOf]
            refine m_bsl (one_el rfl) ?_
            rintro b8 w8 hb8 hblk8 hx8 hs8
            have hx8 : Ext w7 w8 := by first | exact hx8 | exact ud hx8 | exact ud (ud hx8)
            simp only [↓vsd, vsn, gW, qd, qv, ev, pick, argE, zipE, ne_eq, eq_self, forall_const, implies_true, if_true, if_false, reduceIte, reduceCtorEq, Nat.reduceEqDiff, Nat.reduceAdd, Nat.reduceLT, ↓us_sRowsOf, r_sRowsOf]
            have hx48 := (hx6.trans hx7).trans hx8
            refine m_app (ho4.ext hx48) (Sq.one fS_len hblk8 rfl) fS_one (by decide) (by rw [rowsAt_len, List.length_singleton]; omega) (by decide) (hx4.trans hx48).size ?_
            rintro z w9 ho9 hg9
            have hx9 := (ho4.ext hx48).grown (hx4.trans hx48) (Nat.le_refl _) hg9
            simp only [↓vsd, vsn, gW, qd, qv, ev, pick, argE, zipE, ne_eq, eq_self, forall_const, implies_true, if_true, if_false, reduceIte, reduceCtorEq, Nat.reduceEqDiff, Nat.reduceAdd, Nat.reduceLT, ↓us_sRowsOf, r_sRowsOf]
            exact ⟨inR_i64 (by omega), UpTo.next hlt2 ⟨z, rfl, ho9.to (rowsAt_succ ls i).symm, fun j hj => by
              by_cases hji : j = i
              · subst hji; exact ⟨hin6, hR⟩
              · exact hgood j (by omega), hx9⟩⟩
          · have hD := decide_eq_false hR
            unfold rowAt at hD
            simp only [↓vsd, vsn, gW, qd, qv, ev, pick, argE, zipE, ne_eq, eq_self, forall_const, implies_true, if_true, if_false, reduceIte, reduceCtorEq, Nat.reduceEqDiff, Nat.reduceAdd, Nat.reduceLT, ↓us_sRowsOf, r_sRowsOf, hD]
            exact ⟨hx1.trans hx07, hno (fun hh => hR (hh.2.2.2 i (by rw [hL0]; exact hlt2)).2) _⟩
      · obtain rfl : i = L0 := by omega
        have hlt2I : ¬ (i : Int) < i := by omega
        have hok : PthsOk ls := ⟨hst, by rw [hL0]; omega, by rw [hL0]; exact fun b hb => (hall b hb).1, by rw [hL0]; exact hgood⟩
        simp only [↓vsd, vsn, gW, qd, qv, ev, pick, argE, zipE, ne_eq, eq_self, forall_const, implies_true, if_true, if_false, reduceIte, reduceCtorEq, Nat.reduceEqDiff, Nat.reduceAdd, Nat.reduceLT, ↓us_sRowsOf, r_sRowsOf, hlt2I]
        exact ⟨hx1.trans hx04, x, by rw [decide_eq_true hok], by rw [rowsV, if_pos hok, hL0]; exact ho4.mono (hx1.trans hx2).size⟩
  · have hD : (decide ((3 : Int) ≤ ls.length) && decide ((ls.length : Int) ≤ 8)) = false := by
      rw [Bool.and_eq_false_iff, decide_eq_false_iff_not, decide_eq_false_iff_not]; omega
    simp only [↓vsd, vsn, gW, qd, qv, ev, pick, argE, zipE, ne_eq, eq_self, forall_const, implies_true, if_true, if_false, reduceIte, reduceCtorEq, Nat.reduceEqDiff, Nat.reduceAdd, Nat.reduceLT, ↓us_sRowsOf, r_sRowsOf, hD]
    exact ⟨hx1, hno (fun hh => hst hh.1) _⟩
def stepOk (n : Nat) (bs : List Bool) : Bool := (List.range n).all fun y => decide (bell (chgB n bs) y < n ∧ bell (chgB n bs) y ≤ y + 1 ∧ y ≤ bell (chgB n bs) y + 1)
theorem chg_step {n : Nat} {c : List UInt8} (h : IsChange n c) : ∀ y < n, bell (chgL n c) y < n ∧ bell (chgL n c) y ≤ y + 1 ∧ y ≤ bell (chgL n c) y + 1 := by
  have hm := by_mask (P := fun n bs => stepOk n bs = true) (by decide +kernel) h
  rw [stepOk, List.all_eq_true, ← chgL_mask] at hm
  exact fun y hy => of_decide_eq_true (hm y (List.mem_range.2 hy))
theorem turn_bell {a : List UInt8} (ha : IsRow a) {x : Nat} (hx : x < a.length) : bell (turnL a) x < a.length ∧ bell a (bell (turnL a) x) = x := by
  obtain ⟨i, hi, rfl⟩ := ha.onto hx
  rw [bell_turn ha hi]
  exact ⟨hi, rfl⟩
/-- The place of a bell behind a change. -/
theorem turn_apply {r c : List UInt8} (hr : IsRow r) (hc : IsChange r.length c) {x : Nat} (hx : x < r.length) : bell (turnL (applyL r c)) x = bell (chgL r.length c) (bell (turnL r) x) := by
  obtain ⟨h1, h2⟩ := turn_bell hr hx
  have h3 := chg_step hc _ h1
  have h4 := (chg_inv hc).1
  have h5 : bell (chgL r.length c) (bell (chgL r.length c) (bell (turnL r) x)) = bell (turnL r) x := by
    rw [← timesL_bell _ _ _ (by rw [chgL_len]; exact h1), h4]
    exact roundsL_bell _ _ hr.1.2 h1
  have h6 : bell (applyL r c) (bell (chgL r.length c) (bell (turnL r) x)) = x := by
    unfold applyL
    rw [timesL_bell _ _ _ (by rw [chgL_len]; exact h3.1), h5, h2]
  have h7 := bell_turn (applyL_row c hr) (x := bell (chgL r.length c) (bell (turnL r) x)) (by rw [applyL_len]; exact h3.1)
  rw [h6] at h7
  exact h7
theorem path_get (n : Nat) (cs : List (List UInt8)) (hn : 3 ≤ n ∧ n ≤ 8) {x i : Nat} (hx : x < n) (hi : i < cs.length + 1) : (pathP (rowsU (roundsL n) cs (cs.length + 1)) ((x + 1 : Nat) : Int)).getD i 0 = ((bell (turnL (underL (roundsL n) (cs.take i))) x + 1 : Nat) : Int) := by
  have hR := under_row hn (cs.take i)
  rw [pathP, getD_map _ [] _ _ _ (by rw [rowsU_len]; exact hi), rowsU_get _ _ _ _ hi]
  exact congrArg _ (plc_turn hR.1 (by rw [hR.2]; exact hx))
theorem path_step {nm : List UInt8} {n : Nat} {cs : List (List UInt8)} (hm : IsMethod nm n cs) {x i : Nat} (hx : x < n) (hi : i < cs.length) : (pathP (rowsU (roundsL n) cs (cs.length + 1)) ((x + 1 : Nat) : Int)).getD (i + 1) 0 ≤ (pathP (rowsU (roundsL n) cs (cs.length + 1)) ((x + 1 : Nat) : Int)).getD i 0 + 1 ∧ (pathP (rowsU (roundsL n) cs (cs.length + 1)) ((x + 1 : Nat) : Int)).getD i 0 ≤ (pathP (rowsU (roundsL n) cs (cs.length + 1)) ((x + 1 : Nat) : Int)).getD (i + 1) 0 + 1 := by
  have hn : 3 ≤ n ∧ n ≤ 8 := by have := hm.2.1; omega
  have hR := under_row hn (cs.take i)
  have hc : IsChange n (cs.getD i []) := hm.2.2.2 _ (getD_mem [] hi)
  rw [path_get n cs hn hx (by omega), path_get n cs hn hx (by omega), underL_snoc _ _ _ hi]
  rw [← hR.2] at hc hx
  rw [turn_apply hR.1 hc hx]
  have := chg_step hc _ (turn_bell hR.1 hx).1
  omega
theorem path_rng {n : Nat} (hn : 3 ≤ n ∧ n ≤ 8) (cs : List (List UInt8)) {x i : Nat} (hx : x < n) (hi : i < cs.length + 1) : 1 ≤ (pathP (rowsU (roundsL n) cs (cs.length + 1)) ((x + 1 : Nat) : Int)).getD i 0 ∧ (pathP (rowsU (roundsL n) cs (cs.length + 1)) ((x + 1 : Nat) : Int)).getD i 0 ≤ n := by
  have hR := under_row hn (cs.take i)
  rw [path_get n cs hn hx hi]
  have := (turn_bell hR.1 (x := x) (by rw [hR.2]; exact hx)).1
  rw [hR.2] at this
  omega
/-- The rows of the paths are the rows. -/
theorem rowK_paths {n : Nat} (hn : 3 ≤ n ∧ n ≤ 8) (cs : List (List UInt8)) {i : Nat} (hi : i < cs.length + 1) : ∀ k, k ≤ n → ∀ p < n, (rowK (pathsL n cs n) i k).getD p 0 = if bell (underL (roundsL n) (cs.take i)) p < k then UInt8.ofNat (49 + bell (underL (roundsL n) (cs.take i)) p) else 0
  | 0 => fun _ p hp => by
    rw [rowK, pathsL_len, if_neg (by omega), List.getD_eq_getElem?_getD, List.getElem?_replicate, if_pos hp]; rfl
  | k + 1 => fun hk p hp => by
    have hR := under_row hn (cs.take i)
    have hT := turn_bell hR.1 (x := k) (by rw [hR.2]; omega)
    rw [hR.2] at hT
    have hlen := rowK_len (pathsL n cs n) i k
    rw [pathsL_len] at hlen
    have hq : (((pathsL n cs n).getD k []).getD i 0).toNat - 1 = bell (turnL (underL (roundsL n) (cs.take i))) k := by
      rw [pathsL_get n cs n k (by omega), path_get n cs hn (by omega) hi]; omega
    rw [rowK, hq, getD_set, rowK_paths hn cs hi k (by omega) p hp]
    by_cases hpq : bell (turnL (underL (roundsL n) (cs.take i))) k = p
    · rw [if_pos ⟨hpq, by omega⟩]
      have : bell (underL (roundsL n) (cs.take i)) p = k := by rw [← hpq]; exact hT.2
      rw [this, if_pos (by omega)]
    · rw [if_neg (fun hh => hpq hh.1)]
      have hne : bell (underL (roundsL n) (cs.take i)) p ≠ k := fun e => hpq (hR.1.inj' (by rw [hR.2]; exact hT.1) (by rw [hR.2]; exact hp) (by rw [hT.2, e]))
      by_cases hlt : bell (underL (roundsL n) (cs.take i)) p < k
      · rw [if_pos hlt, if_pos (by omega)]
      · rw [if_neg hlt, if_neg (by omega)]
theorem rowAt_paths {n : Nat} (hn : 3 ≤ n ∧ n ≤ 8) (cs : List (List UInt8)) {i : Nat} (hi : i < cs.length + 1) : rowAt (pathsL n cs n) i = underL (roundsL n) (cs.take i) := by
  have hR := under_row hn (cs.take i)
  have hl : (rowAt (pathsL n cs n) i).length = n := by rw [rowAt, rowK_len, pathsL_len]
  apply List.ext_getElem (by rw [hl, hR.2])
  intro p h1 h2
  have h3 := rowK_paths hn cs hi n (Nat.le_refl _) p (by omega)
  rw [if_pos (by have := hR.1.bell_lt (i := p) h2; rw [hR.2] at this; exact this), ← hR.1.get h2] at h3
  rw [show rowK (pathsL n cs n) i n = rowAt (pathsL n cs n) i by rw [rowAt, pathsL_len]] at h3
  rwa [List.getD_eq_getElem?_getD, List.getD_eq_getElem?_getD, List.getElem?_eq_getElem h1, List.getElem?_eq_getElem h2] at h3
theorem pths_paths {nm : List UInt8} {n : Nat} {cs : List (List UInt8)} (hm : IsMethod nm n cs) : PthsOk (pathsL n cs n) ∧ rowsV (pathsL n cs n) = rowsU (roundsL n) cs (cs.length + 1) := by
  have hn : 3 ≤ n ∧ n ≤ 8 := by have := hm.2.1; omega
  have hcl := hm.2.2.1
  have hlen : ∀ b < n, ((pathsL n cs n).getD b []).length = cs.length + 1 := fun b hb => by rw [pathsL_get n cs n b hb, pathP_len, rowsU_len]
  have h0 := hlen 0 (by omega)
  have hok : PthsOk (pathsL n cs n) := by
    unfold PthsOk
    rw [pathsL_len, h0]
    refine ⟨hn, by omega, hlen, fun i hi => ⟨fun b hb => ?_, ?_⟩⟩
    · rw [pathsL_get n cs n b hb]
      exact path_rng hn cs hb hi
    · rw [rowAt_paths hn cs hi]
      exact (under_row hn _).1
  refine ⟨hok, ?_⟩
  rw [rowsV, if_pos hok, h0]
  unfold rowsAt rowsU
  apply List.map_congr_left
  intro i hi
  exact rowAt_paths hn cs (List.mem_range.1 hi)
def stepB (a b : Int) : UInt8 := if a < b then 47 else if b < a then 92 else 61
def workL (p : List Int) (k : Nat) : List UInt8 := (List.range k).map fun i => stepB (p.getD i 0) (p.getD (i + 1) 0)
theorem workL_len (p : List Int) (k : Nat) : (workL p k).length = k := by simp [workL]
theorem workL_succ (p : List Int) (k : Nat) : workL p (k + 1) = workL p k ++ [stepB (p.getD k 0) (p.getD (k + 1) 0)] := by simp [workL, List.range_succ]
def wkR (nm : List UInt8) (st : Int) (cs : List (List UInt8)) (b : Int) : Value := if pathOk nm st cs b then .tuple ⟨[S (workL (pathP (rowsU (roundsL st.toNat) cs (cs.length + 1)) b) cs.length), .bool true]⟩ else .tuple ⟨[S [], .bool false]⟩
theorem iWorkText_ok (nm : List UInt8) (st : Int) (v : Value) (cs : List (List UInt8)) (b : Int) (hnm : nm.length ≤ 1048576) (hs : ∀ c ∈ cs, c.length ≤ 1048576) (hl : cs.length ≤ 1000000000) (w : World) (h : Sq fS 1 w v cs) : Fn 25 [mV nm st v, .int .i64 b] w (fun r _ => r = wkR nm st cs b) := by
  (refine callsV_of mix Try.func25 c_iWorkText ?_; simp only [↓vsd, vsn, gW, qd, qv, ev, pick, argE, zipE, ne_eq, eq_self, forall_const, implies_true, if_true, if_false, reduceIte, reduceCtorEq, Nat.reduceEqDiff, Nat.reduceAdd, Nat.reduceLT, ↓us_iWorkText, r_iWorkText])
  refine m_al ?_
  rintro b1 w1 hb1 hblk1 hx1 hs1
  have h1 : Blk w1 b1 (fM nm st v) 26 := hblk1
  simp only [↓vsd, vsn, gW, qd, qv, ev, pick, argE, zipE, ne_eq, eq_self, forall_const, implies_true, if_true, if_false, reduceIte, reduceCtorEq, Nat.reduceEqDiff, Nat.reduceAdd, Nat.reduceLT, ↓us_iWorkText, r_iWorkText, h1.facts, fMg]
  refine m_call (iPathOf_ok nm st v cs b hnm hs hl _ (by first | exact h.ext hx1 | exact h.ext (dr hx1))) ?_
  rintro _ w2 hx2 ⟨x, rfl, hox⟩
  have hx2 : Ext w1 w2 := by first | exact hx2 | exact ud hx2 | exact ud (ud hx2)
  have hx12 := hx1.trans hx2
  by_cases hok : pathOk nm st cs b
  · have hD := decide_eq_true hok
    obtain ⟨n, rfl⟩ : ∃ n : Nat, st = n := ⟨st.toNat, by have := hok.1.2.1; omega⟩
    obtain ⟨xb, rfl⟩ : ∃ xb : Nat, b = ((xb + 1 : Nat) : Int) := ⟨b.toNat - 1, by have := hok.2; omega⟩
    have hn : 3 ≤ n ∧ n ≤ 8 := by have := hok.1.2.1; omega
    have hcl := hok.1.2.2.1
    have hxb : xb < n := by have := hok.2; omega
    have hst := fun i (hi : i < cs.length) => path_step hok.1 hxb hi
    have hrg := fun i (hi : i < cs.length + 1) => path_rng hn cs hxb hi
    rw [pathR, if_pos hok, Int.toNat_natCast] at hox
    have hpl : (pathP (rowsU (roundsL n) cs (cs.length + 1)) ((xb + 1 : Nat) : Int)).length = cs.length + 1 := by rw [pathP_len, rowsU_len]
    have hv : wkR nm n cs ((xb + 1 : Nat) : Int) = .tuple ⟨[S (workL (pathP (rowsU (roundsL n) cs (cs.length + 1)) ((xb + 1 : Nat) : Int)) cs.length), .bool true]⟩ := by rw [wkR, if_pos hok, Int.toNat_natCast]
    rw [hv]
    generalize pathP (rowsU (roundsL n) cs (cs.length + 1)) ((xb + 1 : Nat) : Int) = p at *
    simp only [↓vsd, vsn, gW, qd, qv, ev, pick, argE, zipE, ne_eq, eq_self, forall_const, implies_true, if_true, if_false, reduceIte, reduceCtorEq, Nat.reduceEqDiff, Nat.reduceAdd, Nat.reduceLT, ↓us_iWorkText, r_iWorkText, hD]
    refine m_upto cs.length (fun i vs w' => vs = [S (workL p i), .int .i64 (i + 1 : Nat)] ∧ Ext w2 w') ⟨rfl, Ext.refl _⟩ ?_
    rintro i vs w3 hi ⟨rfl, hx3⟩
    have hq3 := hox.sq.ext hx3
    have hf3 := hq3.facts
    rw [hpl] at hf3
    by_cases hlt : i < cs.length
    · have hltI : ((i + 1 : Nat) : Int) < ((cs.length + 1 : Nat) : Int) := by omega
      have e1 : ((i + 1 : Nat) : Int) - 1 = (i : Int) := by omega
      have e2 : ((i + 1 : Nat) : Int) + 1 = ((i + 1 + 1 : Nat) : Int) := by omega
      have a0 := hq3.at1 0 (i := i) (by omega)
      have a1 := hq3.at1 0 (i := i + 1) (by omega)
      have hwl := workL_len p i
      have hr0 := hrg i (by omega)
      have hr1 := hrg (i + 1) (by omega)
      have hwk := workL_succ p i
      rw [stepB] at hwk
      generalize p.getD i 0 = y0 at *
      generalize p.getD (i + 1) 0 = y1 at *
      by_cases hlt1 : y0 < y1
      · rw [if_pos hlt1] at hwk
        simp only [↓vsd, vsn, gW, qd, qv, ev, pick, argE, zipE, ne_eq, eq_self, forall_const, implies_true, if_true, if_false, reduceIte, reduceCtorEq, Nat.reduceEqDiff, Nat.reduceAdd, Nat.reduceLT, ↓us_iWorkText, r_iWorkText, hltI, e1, e2, hf3, a0, a1, fI_get, hlt1, hwl]
        exact ⟨by omega, inR_i64 (by omega), ⟨by omega, by omega⟩, by omega, inR_i64 (by omega), UpTo.next hlt ⟨by rw [hwk], by first | exact hx3 | exact dr hx3 | exact dr (dr hx3)⟩⟩
      · rw [if_neg hlt1] at hwk
        by_cases hlt2 : y1 < y0
        · rw [if_pos hlt2] at hwk
          simp only [↓vsd, vsn, gW, qd, qv, ev, pick, argE, zipE, ne_eq, eq_self, forall_const, implies_true, if_true, if_false, reduceIte, reduceCtorEq, Nat.reduceEqDiff, Nat.reduceAdd, Nat.reduceLT, ↓us_iWorkText, r_iWorkText, hltI, e1, e2, hf3, a0, a1, fI_get, hlt1, hlt2, hwl]
          exact ⟨by omega, inR_i64 (by omega), ⟨by omega, by omega⟩, by omega, inR_i64 (by omega), ⟨by omega, by omega⟩, by omega, inR_i64 (by omega), UpTo.next hlt ⟨by rw [hwk], by first | exact hx3 | exact dr hx3 | exact dr (dr hx3)⟩⟩
        · rw [if_neg hlt2] at hwk
          simp only [↓vsd, vsn, gW, qd, qv, ev, pick, argE, zipE, ne_eq, eq_self, forall_const, implies_true, if_true, if_false, reduceIte, reduceCtorEq, Nat.reduceEqDiff, Nat.reduceAdd, Nat.reduceLT, ↓us_iWorkText, r_iWorkText, hltI, e1, e2, hf3, a0, a1, fI_get, hlt1, hlt2, hwl]
          exact ⟨by omega, inR_i64 (by omega), ⟨by omega, by omega⟩, by omega, inR_i64 (by omega), ⟨by omega, by omega⟩, by omega, inR_i64 (by omega), UpTo.next hlt ⟨by rw [hwk], by first | exact hx3 | exact dr hx3 | exact dr (dr hx3)⟩⟩
    · obtain rfl : i = cs.length := by omega
      have hltI : ¬ ((cs.length + 1 : Nat) : Int) < ((cs.length + 1 : Nat) : Int) := by omega
      simp only [↓vsd, vsn, gW, qd, qv, ev, pick, argE, zipE, ne_eq, eq_self, forall_const, implies_true, if_true, if_false, reduceIte, reduceCtorEq, Nat.reduceEqDiff, Nat.reduceAdd, Nat.reduceLT, ↓us_iWorkText, r_iWorkText, hltI, hf3]
      exact hx12.trans hx3
  · have hD := decide_eq_false hok
    simp only [↓vsd, vsn, gW, qd, qv, ev, pick, argE, zipE, ne_eq, eq_self, forall_const, implies_true, if_true, if_false, reduceIte, reduceCtorEq, Nat.reduceEqDiff, Nat.reduceAdd, Nat.reduceLT, ↓us_iWorkText, r_iWorkText, hD]
    exact ⟨hx12, by rw [wkR, if_neg hok]⟩
theorem sWorkText_ok (nm : List UInt8) (st : Int) (v : Value) (cs : List (List UInt8)) (b : Int) (hnm : nm.length ≤ 1048576) (hs : ∀ c ∈ cs, c.length ≤ 1048576) (hl : cs.length ≤ 1000000000) (w : World) (h : Sq fS 1 w v cs) : Fn 31 [mV nm st v, .int .i64 b] w (fun r _ => r = wkR nm st cs b) := by
  (refine callsV_of mix Try.func31 c_sWorkText ?_; simp only [↓vsd, vsn, gW, qd, qv, ev, pick, argE, zipE, ne_eq, eq_self, forall_const, implies_true, if_true, if_false, reduceIte, reduceCtorEq, Nat.reduceEqDiff, Nat.reduceAdd, Nat.reduceLT, ↓us_sWorkText, r_sWorkText])
  refine m_al ?_
  rintro b1 w1 hb1 hblk1 hx1 hs1
  have h1 : Blk w1 b1 (fM nm st v) 26 := hblk1
  simp only [↓vsd, vsn, gW, qd, qv, ev, pick, argE, zipE, ne_eq, eq_self, forall_const, implies_true, if_true, if_false, reduceIte, reduceCtorEq, Nat.reduceEqDiff, Nat.reduceAdd, Nat.reduceLT, ↓us_sWorkText, r_sWorkText, h1.facts, fMg]
  refine m_call (sl5Asked_ok nm st v cs b hnm hs hl _ (by first | exact h.ext hx1 | exact h.ext (dr hx1))) ?_
  rintro _ w2 hx2 rfl
  have hx2 : Ext w1 w2 := by first | exact hx2 | exact ud hx2 | exact ud (ud hx2)
  have hx12 := hx1.trans hx2
  have h2 := h1.ext hx2
  by_cases hok : pathOk nm st cs b
  · have hD := decide_eq_true hok
    obtain ⟨n, rfl⟩ : ∃ n : Nat, st = n := ⟨st.toNat, by have := hok.1.2.1; omega⟩
    obtain ⟨xb, rfl⟩ : ∃ xb : Nat, b = ((xb + 1 : Nat) : Int) := ⟨b.toNat - 1, by have := hok.2; omega⟩
    have hn : 3 ≤ n ∧ n ≤ 8 := by have := hok.1.2.1; omega
    have hcl := hok.1.2.2.1
    have hxb : xb < n := by have := hok.2; omega
    have hst := fun i (hi : i < cs.length) => path_step hok.1 hxb hi
    have hrg := fun i (hi : i < cs.length + 1) => path_rng hn cs hxb hi
    have hpl : (pathP (rowsU (roundsL n) cs (cs.length + 1)) ((xb + 1 : Nat) : Int)).length = cs.length + 1 := by rw [pathP_len, rowsU_len]
    have hv : wkR nm n cs ((xb + 1 : Nat) : Int) = .tuple ⟨[S (workL (pathP (rowsU (roundsL n) cs (cs.length + 1)) ((xb + 1 : Nat) : Int)) cs.length), .bool true]⟩ := by rw [wkR, if_pos hok, Int.toNat_natCast]
    rw [hv]
    simp only [↓vsd, vsn, gW, qd, qv, ev, pick, argE, zipE, ne_eq, eq_self, forall_const, implies_true, if_true, if_false, reduceIte, reduceCtorEq, Nat.reduceEqDiff, Nat.reduceAdd, Nat.reduceLT, ↓us_sWorkText, r_sWorkText, hD, h2.facts, fMg]
    refine m_call (sl5Path_ok nm n v cs _ hok.1 _ (by first | exact h.ext hx12 | exact h.ext (dr hx12))) ?_
    rintro x w22 hx22 hox
    have hx22 : Ext w2 w22 := by first | exact hx22 | exact ud hx22 | exact ud (ud hx22)
    have hx122 := hx12.trans hx22
    generalize pathP (rowsU (roundsL n) cs (cs.length + 1)) ((xb + 1 : Nat) : Int) = p at *
    simp only [↓vsd, vsn, gW, qd, qv, ev, pick, argE, zipE, ne_eq, eq_self, forall_const, implies_true, if_true, if_false, reduceIte, reduceCtorEq, Nat.reduceEqDiff, Nat.reduceAdd, Nat.reduceLT, ↓us_sWorkText, r_sWorkText]
    refine m_upto cs.length (fun i vs w' => vs = [S (workL p i), .int .i64 (i + 1 : Nat)] ∧ Ext w22 w') ⟨rfl, Ext.refl _⟩ ?_
    rintro i vs w3 hi ⟨rfl, hx3⟩
    have hq3 := hox.sq.ext hx3
    have hf3 := hq3.facts
    rw [hpl] at hf3
    by_cases hlt : i < cs.length
    · have hltI : ((i + 1 : Nat) : Int) < ((cs.length + 1 : Nat) : Int) := by omega
      have e1 : ((i + 1 : Nat) : Int) - 1 = (i : Int) := by omega
      have e2 : ((i + 1 : Nat) : Int) + 1 = ((i + 1 + 1 : Nat) : Int) := by omega
      have a0 := hq3.at1 0 (i := i) (by omega)
      have a1 := hq3.at1 0 (i := i + 1) (by omega)
      have hwl := workL_len p i
      have hr0 := hrg i (by omega)
      have hr1 := hrg (i + 1) (by omega)
      have hs01 := hst i hlt
      have hwk := workL_succ p i
      rw [stepB] at hwk
      generalize p.getD i 0 = y0 at *
      generalize p.getD (i + 1) 0 = y1 at *
      obtain ⟨q, hq, hq3⟩ : ∃ q : Nat, 1 + y1 - y0 = (q : Int) ∧ q ≤ 2 := ⟨(1 + y1 - y0).toNat, by omega, by omega⟩
      have hqq : (([92, 61, 47] : List UInt8).take (q + 1)).drop q = [if y0 < y1 then 47 else if y1 < y0 then 92 else 61] := by
        match q, hq3, hq with
        | 0, _, hq => rw [if_neg (by omega), if_pos (by omega)]; rfl
        | 1, _, hq => rw [if_neg (by omega), if_neg (by omega)]; rfl
        | 2, _, hq => rw [if_pos (by omega)]; rfl
      have eq1 : (q : Int) + 1 = ((q + 1 : Nat) : Int) := by omega
      simp only [↓vsd, vsn, gW, qd, qv, ev, pick, argE, zipE, ne_eq, eq_self, forall_const, implies_true, if_true, if_false, reduceIte, reduceCtorEq, Nat.reduceEqDiff, Nat.reduceAdd, Nat.reduceLT, ↓us_sWorkText, r_sWorkText, hltI, e1, e2, hf3, a0, a1, fI_get, hq, eq1, hwl, hqq]
      exact ⟨by omega, inR_i64 (by omega), inR_i64 (by omega), ⟨by omega, by omega⟩, inR_i64 (by omega), inR_i64 (by omega), ⟨by omega, by omega, by omega⟩, by omega, inR_i64 (by omega), UpTo.next hlt ⟨by rw [hwk], by first | exact hx3 | exact dr hx3⟩⟩
    · obtain rfl : i = cs.length := by omega
      have hltI : ¬ ((cs.length + 1 : Nat) : Int) < ((cs.length + 1 : Nat) : Int) := by omega
      simp only [↓vsd, vsn, gW, qd, qv, ev, pick, argE, zipE, ne_eq, eq_self, forall_const, implies_true, if_true, if_false, reduceIte, reduceCtorEq, Nat.reduceEqDiff, Nat.reduceAdd, Nat.reduceLT, ↓us_sWorkText, r_sWorkText, hltI, hf3]
      exact hx122.trans hx3
  · have hD := decide_eq_false hok
    simp only [↓vsd, vsn, gW, qd, qv, ev, pick, argE, zipE, ne_eq, eq_self, forall_const, implies_true, if_true, if_false, reduceIte, reduceCtorEq, Nat.reduceEqDiff, Nat.reduceAdd, Nat.reduceLT, ↓us_sWorkText, r_sWorkText, hD]
    exact ⟨hx12, by rw [wkR, if_neg hok]⟩
end Go.Proofs.Ytnincmnkdjlndaa
