/-
  Changes: what program and reference compute of one; products of rows.
  Conditions: none.
-/
import Derived.Test.YtfklonhjgkahdaaKA4
import Derived.Test.YtfklonhjgkahdaaKA9
set_option linter.unusedSimpArgs false
set_option linter.unusedVariables false
set_option linter.defProp false
namespace Go.Proofs.Ytfklonhjgkahdaa
open Go Go.RowKit
section
variable (P : Program) (k : KT) (e : Env) (w : World)
abbrev b47_1 : X := (.cond (.t 21) (.seq (.reg [2, 3] (.c (.q 2 [] (.mv (.c (.slice none 0 0)))) (.c (.q 3 [] (.mv (.c (.bool false)))) .nil))) .ret) .skip)
def t47_1 := b47_1
theorem u47_1 : vcK P t47_1 k e w = vcK P b47_1 k e w := rfl
abbrev b47_2 : X := (.reg [0, 4, 8, 9] (.c (.q 22 [] (.mv (.t 4))) (.c (.q 23 [] (.mv (.t 0))) (.c (.q 24 [] (.mv (.t 5))) (.c (.q 25 [] (.idx (.t 23) (.t 24))) (.c (.q 26 [] (.bin .sub (.t 25) (.c (.int .u8 48)))) (.c (.q 27 [] (.cvi .i64 (.t 26))) (.c (.e (some 28) [] (.bsl 3 1 [(.t 27)])) (.c (.e (some 29) [] (.app 69 3 1 8 [(.int .i64 0)] 69 (.t 22) (.t 28))) (.c (.q 4 [] (.mv (.t 29))) .nil))))))))))
def t47_2 := b47_2
theorem u47_2 : vcK P t47_2 k e w = vcK P b47_2 k e w := rfl
abbrev b47_3 : X := (.seq (.seq (.reg [0, 4, 5, 8, 9, 21] (.c (.q 12 [] (.mv (.t 0))) (.c (.q 13 [] (.mv (.t 5))) (.c (.q 14 [] (.idx (.t 12) (.t 13))) (.c (.q 15 [] (.bin .lss (.t 14) (.c (.int .u8 49)))) (.c (.q 16 [] (.mv (.t 15))) (.c (.q 17 [(16, false)] (.mv (.t 0))) (.c (.q 18 [(16, false)] (.mv (.t 5))) (.c (.q 19 [(16, false)] (.idx (.t 17) (.t 18))) (.c (.q 20 [(16, false)] (.bin .gtr (.t 19) (.c (.int .u8 56)))) (.c (.q 21 [] (.pick (.t 16) (.c (.bool true)) (.t 20))) .nil))))))))))) t47_1) t47_2)
def t47_3 := b47_3
theorem u47_3 : vcK P t47_3 k e w = vcK P b47_3 k e w := rfl
abbrev b47_4 : X := (.reg [0, 4, 8, 9] (.c (.q 30 [] (.bin .add (.t 9) (.c (.int .i64 1)))) (.c (.q 9 [] (.mv (.t 30))) .nil)))
def t47_4 := b47_4
theorem u47_4 : vcK P t47_4 k e w = vcK P b47_4 k e w := rfl
abbrev b47_5 : X := (.seq (.blk 1 (.seq (.reg [0, 4, 5, 8, 9] (.c (.q 11 [] (.mv (.t 9))) (.c (.q 5 [] (.mv (.t 11))) .nil))) t47_3)) t47_4)
def t47_5 := b47_5
theorem u47_5 : vcK P t47_5 k e w = vcK P b47_5 k e w := rfl
abbrev b47_6 : X := (.seq (.cond (.t 10) .skip (.exit 0)) t47_5)
def t47_6 := b47_6
theorem u47_6 : vcK P t47_6 k e w = vcK P b47_6 k e w := rfl
abbrev b47_7 : X := (.seq (.reg [0, 4, 8, 9, 10] (.c (.q 10 [] (.bin .lss (.t 9) (.t 8))) .nil)) t47_6)
def t47_7 := b47_7
theorem u47_7 : vcK P t47_7 k e w = vcK P b47_7 k e w := rfl
abbrev b47_8 : X := (.blk 0 (.loop [4, 9] [0, 8] t47_7))
def t47_8 := b47_8
theorem u47_8 : vcK P t47_8 k e w = vcK P b47_8 k e w := rfl
abbrev b47_9 : X := (.seq (.reg [2, 3] (.c (.q 31 [] (.mv (.t 4))) (.c (.q 2 [] (.mv (.t 31))) (.c (.q 3 [] (.mv (.c (.bool true)))) .nil)))) .ret)
def t47_9 := b47_9
theorem u47_9 : vcK P t47_9 k e w = vcK P b47_9 k e w := rfl
abbrev b47_10 : X := (.seq (.seq (.reg [0, 4, 8, 9] (.c (.q 7 [] (.mv (.t 0))) (.c (.q 8 [] (.len (.t 7))) (.c (.q 9 [] (.mv (.c (.int .i64 0)))) .nil)))) t47_8) t47_9)
def t47_10 := b47_10
theorem u47_10 : vcK P t47_10 k e w = vcK P b47_10 k e w := rfl
abbrev b47_11 : X := (.seq (.reg [0, 4] (.c (.e (some 6) [] (.bsl 3 1 [])) (.c (.q 4 [] (.mv (.t 6))) .nil))) t47_10)
def t47_11 := b47_11
theorem u47_11 : vcK P t47_11 k e w = vcK P b47_11 k e w := rfl
abbrev b47_0 : X := (.seq (.reg [0] (.c (.q 2 [] (.mv (.c (.slice none 0 0)))) (.c (.q 3 [] (.mv (.c (.bool false)))) .nil))) t47_11)
def x_iplaces := b47_0
theorem u47_0 : vcK P x_iplaces k e w = vcK P b47_0 k e w := rfl
def r_iplaces : List XO := [(.mv (.t 2)), (.mv (.t 3))]
theorem c_iplaces : convF Try.prog [38, 39, 41, 42, 49, 54, 55, 57, 58, 59, 73, 79, 81, 84, 87, 139] Try.f47 [([0], []), ([0, 4], []), ([0, 4, 8, 9], []), ([4, 9], [0, 8]), ([0, 4, 8, 9, 10], []), ([0, 4, 5, 8, 9], []), ([0, 4, 5, 8, 9, 21], []), ([2, 3], []), ([0, 4, 8, 9], []), ([0, 4, 8, 9], []), ([2, 3], [])] = some (x_iplaces, r_iplaces) := by kernel_rfl
def us_iplaces :=  (aI (aI (aI @u47_0 (aI @u47_1 @u47_2)) (aI @u47_3 (aI @u47_4 @u47_5))) (aI (aI @u47_6 (aI @u47_7 @u47_8)) (aI @u47_9 (aI @u47_10 @u47_11))))
abbrev b48_1 : X := (.cond (.t 43) (.seq (.reg [4] (.c (.q 4 [] (.mv (.c (.bool false)))) .nil)) .ret) .skip)
def t48_1 := b48_1
theorem u48_1 : vcK P t48_1 k e w = vcK P b48_1 k e w := rfl
abbrev b48_2 : X := (.cond (.t 47) .skip (.exit 0))
def t48_2 := b48_2
theorem u48_2 : vcK P t48_2 k e w = vcK P b48_2 k e w := rfl
abbrev b48_3 : X := (.cond (.t 73) (.seq (.reg [4] (.c (.q 4 [] (.mv (.c (.bool false)))) .nil)) .ret) .skip)
def t48_3 := b48_3
theorem u48_3 : vcK P t48_3 k e w = vcK P b48_3 k e w := rfl
abbrev b48_4 : X := (.reg [1, 5] (.c (.q 48 [] (.mv (.t 5))) (.c (.q 49 [] (.bin .add (.t 48) (.c (.int .i64 1)))) (.c (.q 5 [] (.mv (.t 49))) .nil))))
def t48_4 := b48_4
theorem u48_4 : vcK P t48_4 k e w = vcK P b48_4 k e w := rfl
abbrev b48_5 : X := (.seq (.blk 1 (.seq (.drw [1, 5, 73] (.c (.q 50 [] (.mv (.t 1))) (.c (.q 51 [] (.mv (.t 5))) (.c (.q 52 [] (.ia 1 (.t 50) (.t 51))) (.c (.q 53 [] (.ld (.t 52))) (.c (.q 54 [] (.mv (.t 1))) (.c (.q 55 [] (.mv (.t 5))) (.c (.q 56 [] (.bin .sub (.t 55) (.c (.int .i64 1)))) (.c (.q 57 [] (.ia 1 (.t 54) (.t 56))) (.c (.q 58 [] (.ld (.t 57))) (.c (.q 59 [] (.bin .leq (.t 53) (.t 58))) (.c (.q 60 [] (.mv (.t 59))) (.c (.q 61 [(60, false)] (.mv (.t 1))) (.c (.q 62 [(60, false)] (.mv (.t 5))) (.c (.q 63 [(60, false)] (.ia 1 (.t 61) (.t 62))) (.c (.q 64 [(60, false)] (.ld (.t 63))) (.c (.q 65 [(60, false)] (.mv (.t 1))) (.c (.q 66 [(60, false)] (.mv (.t 5))) (.c (.q 67 [(60, false)] (.bin .sub (.t 66) (.c (.int .i64 1)))) (.c (.q 68 [(60, false)] (.ia 1 (.t 65) (.t 67))) (.c (.q 69 [(60, false)] (.ld (.t 68))) (.c (.q 70 [(60, false)] (.bin .sub (.t 64) (.t 69))) (.c (.q 71 [(60, false)] (.bin .rem (.t 70) (.c (.int .i64 2)))) (.c (.q 72 [(60, false)] (.bin .eql (.t 71) (.c (.int .i64 0)))) (.c (.q 73 [] (.pick (.t 60) (.c (.bool true)) (.t 72))) .nil))))))))))))))))))))))))) t48_3)) t48_4)
def t48_5 := b48_5
theorem u48_5 : vcK P t48_5 k e w = vcK P b48_5 k e w := rfl
abbrev b48_6 : X := (.seq (.seq (.reg [1, 5, 47] (.c (.q 44 [] (.mv (.t 5))) (.c (.q 45 [] (.mv (.t 1))) (.c (.q 46 [] (.lens (.t 45))) (.c (.q 47 [] (.bin .lss (.t 44) (.t 46))) .nil))))) t48_2) t48_5)
def t48_6 := b48_6
theorem u48_6 : vcK P t48_6 k e w = vcK P b48_6 k e w := rfl
abbrev b48_7 : X := (.blk 0 (.loop [5] [1] t48_6))
def t48_7 := b48_7
theorem u48_7 : vcK P t48_7 k e w = vcK P b48_7 k e w := rfl
abbrev b48_8 : X := (.seq (.reg [4] (.c (.q 4 [] (.mv (.c (.bool true)))) .nil)) .ret)
def t48_8 := b48_8
theorem u48_8 : vcK P t48_8 k e w = vcK P b48_8 k e w := rfl
abbrev b48_9 : X := (.seq (.seq (.reg [1, 5] (.c (.q 5 [] (.mv (.c (.int .i64 1)))) .nil)) t48_7) t48_8)
def t48_9 := b48_9
theorem u48_9 : vcK P t48_9 k e w = vcK P b48_9 k e w := rfl
abbrev b48_10 : X := (.seq (.seq (.reg [1, 43] (.c (.q 6 [] (.mv (.t 1))) (.c (.q 7 [] (.lens (.t 6))) (.c (.q 8 [] (.bin .eql (.t 7) (.c (.int .i64 0)))) (.c (.q 9 [] (.mv (.t 8))) (.c (.q 10 [(9, false)] (.mv (.t 1))) (.c (.q 11 [(9, false)] (.lens (.t 10))) (.c (.q 12 [(9, false)] (.mv (.t 0))) (.c (.q 13 [(9, false)] (.bin .eql (.t 11) (.t 12))) (.c (.q 14 [] (.pick (.t 9) (.c (.bool true)) (.t 13))) (.c (.q 15 [] (.mv (.t 14))) (.c (.q 16 [(15, false)] (.mv (.t 1))) (.c (.q 17 [(15, false)] (.ia 1 (.t 16) (.c (.int .i64 0)))) (.c (.q 18 [(15, false)] (.ld (.t 17))) (.c (.q 19 [(15, false)] (.bin .rem (.t 18) (.c (.int .i64 2)))) (.c (.q 20 [(15, false)] (.bin .eql (.t 19) (.c (.int .i64 0)))) (.c (.q 21 [] (.pick (.t 15) (.c (.bool true)) (.t 20))) (.c (.q 22 [] (.mv (.t 21))) (.c (.q 23 [(22, false)] (.mv (.t 1))) (.c (.q 24 [(22, false)] (.mv (.t 1))) (.c (.q 25 [(22, false)] (.lens (.t 24))) (.c (.q 26 [(22, false)] (.bin .sub (.t 25) (.c (.int .i64 1)))) (.c (.q 27 [(22, false)] (.ia 1 (.t 23) (.t 26))) (.c (.q 28 [(22, false)] (.ld (.t 27))) (.c (.q 29 [(22, false)] (.bin .rem (.t 28) (.c (.int .i64 2)))) (.c (.q 30 [(22, false)] (.mv (.t 0))) (.c (.q 31 [(22, false)] (.bin .rem (.t 30) (.c (.int .i64 2)))) (.c (.q 32 [(22, false)] (.bin .neq (.t 29) (.t 31))) (.c (.q 33 [] (.pick (.t 22) (.c (.bool true)) (.t 32))) (.c (.q 34 [] (.mv (.t 33))) (.c (.q 35 [(34, false)] (.mv (.t 1))) (.c (.q 36 [(34, false)] (.mv (.t 1))) (.c (.q 37 [(34, false)] (.lens (.t 36))) (.c (.q 38 [(34, false)] (.bin .sub (.t 37) (.c (.int .i64 1)))) (.c (.q 39 [(34, false)] (.ia 1 (.t 35) (.t 38))) (.c (.q 40 [(34, false)] (.ld (.t 39))) (.c (.q 41 [(34, false)] (.mv (.t 0))) (.c (.q 42 [(34, false)] (.bin .gtr (.t 40) (.t 41))) (.c (.q 43 [] (.pick (.t 34) (.c (.bool true)) (.t 42))) .nil))))))))))))))))))))))))))))))))))))))) t48_1) t48_9)
def t48_10 := b48_10
theorem u48_10 : vcK P t48_10 k e w = vcK P b48_10 k e w := rfl
abbrev b48_0 : X := (.seq (.reg [0, 1] (.c (.q 4 [] (.mv (.c (.bool false)))) .nil)) t48_10)
def x_iarePlaces := b48_0
theorem u48_0 : vcK P x_iarePlaces k e w = vcK P b48_0 k e w := rfl
def r_iarePlaces : List XO := [(.mv (.t 4))]
theorem c_iarePlaces : convF Try.prog [38, 39, 41, 42, 49, 54, 55, 57, 58, 59, 73, 79, 81, 84, 87, 139] Try.f48 [([0, 1], []), ([1, 43], []), ([4], []), ([1, 5], []), ([5], [1]), ([1, 5, 47], []), ([1, 5, 73], []), ([4], []), ([1, 5], []), ([4], [])] = some (x_iarePlaces, r_iarePlaces) := by kernel_rfl
def us_iarePlaces :=  (aI (aI (aI @u48_0 @u48_1) (aI @u48_2 (aI @u48_3 @u48_4))) (aI (aI @u48_5 (aI @u48_6 @u48_7)) (aI @u48_8 (aI @u48_9 @u48_10))))
abbrev b17_1 : X := (.cond (.t 9) (.seq (.reg [4] (.c (.q 4 [] (.mv (.c (.bool false)))) .nil)) .ret) .skip)
def t17_1 := b17_1
theorem u17_1 : vcK P t17_1 k e w = vcK P b17_1 k e w := rfl
abbrev b17_2 : X := (.cond (.t 11) (.seq (.reg [4] (.c (.q 12 [] (.mv (.t 0))) (.c (.q 13 [] (.bin .rem (.t 12) (.c (.int .i64 2)))) (.c (.q 14 [] (.bin .eql (.t 13) (.c (.int .i64 0)))) (.c (.q 4 [] (.mv (.t 14))) .nil))))) .ret) .skip)
def t17_2 := b17_2
theorem u17_2 : vcK P t17_2 k e w = vcK P b17_2 k e w := rfl
abbrev b17_3 : X := (.seq (.reg [4] (.c (.q 20 [] (.mv (.t 6))) (.c (.q 21 [] (.mv (.t 20))) (.c (.q 22 [(21, true)] (.mv (.t 0))) (.c (.q 23 [(21, true)] (.mv (.t 5))) (.c (.e (some 24) [(21, true)] (.call false 48 [(.t 22), (.t 23)])) (.c (.q 25 [] (.pick (.t 21) (.t 24) (.c (.bool false)))) (.c (.q 4 [] (.mv (.t 25))) .nil)))))))) .ret)
def t17_3 := b17_3
theorem u17_3 : vcK P t17_3 k e w = vcK P b17_3 k e w := rfl
abbrev b17_4 : X := (.seq (.reg [0, 5, 6] (.c (.q 16 [] (.mv (.t 1))) (.c (.e (some 17) [] (.call false 47 [(.t 16)])) (.c (.q 15 [] (.mv (.t 17))) (.c (.q 18 [] (.ext 0 (.t 15))) (.c (.q 19 [] (.ext 1 (.t 15))) (.c (.q 5 [] (.mv (.t 18))) (.c (.q 6 [] (.mv (.t 19))) .nil)))))))) t17_3)
def t17_4 := b17_4
theorem u17_4 : vcK P t17_4 k e w = vcK P b17_4 k e w := rfl
abbrev b17_5 : X := (.seq (.seq (.reg [0, 1, 11] (.c (.q 10 [] (.mv (.t 1))) (.c (.q 11 [] (.bin .eql (.t 10) (.s [45]))) .nil))) t17_2) t17_4)
def t17_5 := b17_5
theorem u17_5 : vcK P t17_5 k e w = vcK P b17_5 k e w := rfl
abbrev b17_6 : X := (.seq (.seq (.reg [0, 1, 9] (.c (.q 7 [] (.mv (.t 0))) (.c (.e (some 8) [] (.call false 43 [(.t 7)])) (.c (.q 9 [] (.not (.t 8))) .nil)))) t17_1) t17_5)
def t17_6 := b17_6
theorem u17_6 : vcK P t17_6 k e w = vcK P b17_6 k e w := rfl
abbrev b17_0 : X := (.seq (.reg [0, 1] (.c (.q 4 [] (.mv (.c (.bool false)))) .nil)) t17_6)
def x_iGoodChange := b17_0
theorem u17_0 : vcK P x_iGoodChange k e w = vcK P b17_0 k e w := rfl
def r_iGoodChange : List XO := [(.mv (.t 4))]
theorem c_iGoodChange : convF Try.prog [38, 39, 41, 42, 49, 54, 55, 57, 58, 59, 73, 79, 81, 84, 87, 139] Try.f17 [([0, 1], []), ([0, 1, 9], []), ([4], []), ([0, 1, 11], []), ([4], []), ([0, 5, 6], []), ([4], [])] = some (x_iGoodChange, r_iGoodChange) := by kernel_rfl
def us_iGoodChange :=  (aI (aI @u17_0 (aI @u17_1 @u17_2)) (aI (aI @u17_3 @u17_4) (aI @u17_5 @u17_6)))
abbrev b76_1 : X := (.cond (.t 21) (.seq (.reg [4] (.c (.q 4 [] (.mv (.c (.bool false)))) .nil)) .ret) .skip)
def t76_1 := b76_1
theorem u76_1 : vcK P t76_1 k e w = vcK P b76_1 k e w := rfl
abbrev b76_2 : X := (.cond (.t 23) (.seq (.reg [4] (.c (.q 24 [] (.mv (.t 0))) (.c (.q 25 [] (.bin .rem (.t 24) (.c (.int .i64 2)))) (.c (.q 26 [] (.bin .eql (.t 25) (.c (.int .i64 0)))) (.c (.q 4 [] (.mv (.t 26))) .nil))))) .ret) .skip)
def t76_2 := b76_2
theorem u76_2 : vcK P t76_2 k e w = vcK P b76_2 k e w := rfl
abbrev b76_3 : X := (.cond (.t 30) .skip (.exit 0))
def t76_3 := b76_3
theorem u76_3 : vcK P t76_3 k e w = vcK P b76_3 k e w := rfl
abbrev b76_4 : X := (.cond (.t 50) (.seq (.reg [4] (.c (.q 4 [] (.mv (.c (.bool false)))) .nil)) .ret) .skip)
def t76_4 := b76_4
theorem u76_4 : vcK P t76_4 k e w = vcK P b76_4 k e w := rfl
abbrev b76_5 : X := (.reg [0, 1, 5, 6] (.c (.q 51 [] (.mv (.t 7))) (.c (.q 5 [] (.mv (.t 51))) .nil)))
def t76_5 := b76_5
theorem u76_5 : vcK P t76_5 k e w = vcK P b76_5 k e w := rfl
abbrev b76_6 : X := (.seq (.seq (.reg [0, 1, 6, 7, 50] (.c (.q 38 [] (.mv (.t 7))) (.c (.q 39 [] (.mv (.t 5))) (.c (.q 40 [] (.bin .add (.t 39) (.c (.int .i64 1)))) (.c (.q 41 [] (.mv (.t 0))) (.c (.e (some 42) [] (.call false 45 [(.t 38), (.t 40), (.t 41)])) (.c (.q 43 [] (.not (.t 42))) (.c (.q 44 [] (.mv (.t 43))) (.c (.q 45 [(44, false)] (.mv (.t 7))) (.c (.q 46 [(44, false)] (.mv (.t 5))) (.c (.q 47 [(44, false)] (.bin .sub (.t 45) (.t 46))) (.c (.q 48 [(44, false)] (.bin .rem (.t 47) (.c (.int .i64 2)))) (.c (.q 49 [(44, false)] (.bin .eql (.t 48) (.c (.int .i64 0)))) (.c (.q 50 [] (.pick (.t 44) (.c (.bool true)) (.t 49))) .nil)))))))))))))) t76_4) t76_5)
def t76_6 := b76_6
theorem u76_6 : vcK P t76_6 k e w = vcK P b76_6 k e w := rfl
abbrev b76_7 : X := (.reg [0, 1, 5, 6] (.c (.q 31 [] (.mv (.t 6))) (.c (.q 32 [] (.bin .add (.t 31) (.c (.int .i64 1)))) (.c (.q 6 [] (.mv (.t 32))) .nil))))
def t76_7 := b76_7
theorem u76_7 : vcK P t76_7 k e w = vcK P b76_7 k e w := rfl
abbrev b76_8 : X := (.seq (.blk 1 (.seq (.reg [0, 1, 5, 6, 7] (.c (.q 33 [] (.mv (.t 1))) (.c (.q 34 [] (.mv (.t 6))) (.c (.q 35 [] (.idx (.t 33) (.t 34))) (.c (.q 36 [] (.cvi .i64 (.t 35))) (.c (.q 37 [] (.bin .sub (.t 36) (.c (.int .i64 48)))) (.c (.q 7 [] (.mv (.t 37))) .nil))))))) t76_6)) t76_7)
def t76_8 := b76_8
theorem u76_8 : vcK P t76_8 k e w = vcK P b76_8 k e w := rfl
abbrev b76_9 : X := (.seq (.seq (.reg [0, 1, 5, 6, 30] (.c (.q 27 [] (.mv (.t 6))) (.c (.q 28 [] (.mv (.t 1))) (.c (.q 29 [] (.len (.t 28))) (.c (.q 30 [] (.bin .lss (.t 27) (.t 29))) .nil))))) t76_3) t76_8)
def t76_9 := b76_9
theorem u76_9 : vcK P t76_9 k e w = vcK P b76_9 k e w := rfl
abbrev b76_10 : X := (.blk 0 (.loop [5, 6] [0, 1] t76_9))
def t76_10 := b76_10
theorem u76_10 : vcK P t76_10 k e w = vcK P b76_10 k e w := rfl
abbrev b76_11 : X := (.seq (.reg [4] (.c (.q 52 [] (.mv (.t 0))) (.c (.q 53 [] (.mv (.t 5))) (.c (.q 54 [] (.bin .sub (.t 52) (.t 53))) (.c (.q 55 [] (.bin .rem (.t 54) (.c (.int .i64 2)))) (.c (.q 56 [] (.bin .eql (.t 55) (.c (.int .i64 0)))) (.c (.q 4 [] (.mv (.t 56))) .nil))))))) .ret)
def t76_11 := b76_11
theorem u76_11 : vcK P t76_11 k e w = vcK P b76_11 k e w := rfl
abbrev b76_12 : X := (.seq (.seq (.reg [0, 1, 5, 6] (.c (.q 6 [] (.mv (.c (.int .i64 0)))) .nil)) t76_10) t76_11)
def t76_12 := b76_12
theorem u76_12 : vcK P t76_12 k e w = vcK P b76_12 k e w := rfl
abbrev b76_13 : X := (.seq (.reg [0, 1, 5] (.c (.q 5 [] (.mv (.c (.int .i64 0)))) .nil)) t76_12)
def t76_13 := b76_13
theorem u76_13 : vcK P t76_13 k e w = vcK P b76_13 k e w := rfl
abbrev b76_14 : X := (.seq (.seq (.reg [0, 1, 23] (.c (.q 22 [] (.mv (.t 1))) (.c (.q 23 [] (.bin .eql (.t 22) (.s [45]))) .nil))) t76_2) t76_13)
def t76_14 := b76_14
theorem u76_14 : vcK P t76_14 k e w = vcK P b76_14 k e w := rfl
abbrev b76_15 : X := (.seq (.seq (.reg [0, 1, 21] (.c (.q 8 [] (.mv (.t 0))) (.c (.e (some 9) [] (.call false 45 [(.t 8), (.c (.int .i64 3)), (.c (.int .i64 8))])) (.c (.q 10 [] (.not (.t 9))) (.c (.q 11 [] (.mv (.t 10))) (.c (.q 12 [(11, false)] (.mv (.t 1))) (.c (.q 13 [(11, false)] (.bin .eql (.t 12) (.s []))) (.c (.q 14 [] (.pick (.t 11) (.c (.bool true)) (.t 13))) (.c (.q 15 [] (.mv (.t 14))) (.c (.q 16 [(15, false)] (.mv (.t 1))) (.c (.q 17 [(15, false)] (.len (.t 16))) (.c (.q 18 [(15, false)] (.mv (.t 0))) (.c (.q 19 [(15, false)] (.bin .sub (.t 18) (.c (.int .i64 2)))) (.c (.q 20 [(15, false)] (.bin .gtr (.t 17) (.t 19))) (.c (.q 21 [] (.pick (.t 15) (.c (.bool true)) (.t 20))) .nil))))))))))))))) t76_1) t76_14)
def t76_15 := b76_15
theorem u76_15 : vcK P t76_15 k e w = vcK P b76_15 k e w := rfl
abbrev b76_0 : X := (.seq (.reg [0, 1] (.c (.q 4 [] (.mv (.c (.bool false)))) .nil)) t76_15)
def x_sl2Change := b76_0
theorem u76_0 : vcK P x_sl2Change k e w = vcK P b76_0 k e w := rfl
def r_sl2Change : List XO := [(.mv (.t 4))]
theorem c_sl2Change : convF Try.prog [38, 39, 41, 42, 49, 54, 55, 57, 58, 59, 73, 79, 81, 84, 87, 139] Try.f76 [([0, 1], []), ([0, 1, 21], []), ([4], []), ([0, 1, 23], []), ([4], []), ([0, 1, 5], []), ([0, 1, 5, 6], []), ([5, 6], [0, 1]), ([0, 1, 5, 6, 30], []), ([0, 1, 5, 6, 7], []), ([0, 1, 6, 7, 50], []), ([4], []), ([0, 1, 5, 6], []), ([0, 1, 5, 6], []), ([4], [])] = some (x_sl2Change, r_sl2Change) := by kernel_rfl
def us_sl2Change :=  (aI (aI (aI (aI @u76_0 @u76_1) (aI @u76_2 @u76_3)) (aI (aI @u76_4 @u76_5) (aI @u76_6 @u76_7))) (aI (aI (aI @u76_8 @u76_9) (aI @u76_10 @u76_11)) (aI (aI @u76_12 @u76_13) (aI @u76_14 @u76_15))))
abbrev b123_1 : X := (.cond (.t 16) (.seq (.reg [4] (.c (.q 17 [] (.mv (.t 5))) (.c (.q 4 [] (.mv (.t 17))) .nil))) .ret) .skip)
def t123_1 := b123_1
theorem u123_1 : vcK P t123_1 k e w = vcK P b123_1 k e w := rfl
abbrev b123_2 : X := (.seq (.reg [0, 1, 5, 7, 8, 16] (.c (.q 11 [] (.mv (.t 1))) (.c (.q 12 [] (.mv (.t 0))) (.c (.q 13 [] (.mv (.t 5))) (.c (.q 14 [] (.ia 1 (.t 12) (.t 13))) (.c (.q 15 [] (.ld (.t 14))) (.c (.q 16 [] (.bin .eql (.t 11) (.t 15))) .nil))))))) t123_1)
def t123_2 := b123_2
theorem u123_2 : vcK P t123_2 k e w = vcK P b123_2 k e w := rfl
abbrev b123_3 : X := (.reg [0, 1, 7, 8] (.c (.q 18 [] (.bin .add (.t 8) (.c (.int .i64 1)))) (.c (.q 8 [] (.mv (.t 18))) .nil)))
def t123_3 := b123_3
theorem u123_3 : vcK P t123_3 k e w = vcK P b123_3 k e w := rfl
abbrev b123_4 : X := (.seq (.blk 1 (.seq (.reg [0, 1, 5, 7, 8] (.c (.q 10 [] (.mv (.t 8))) (.c (.q 5 [] (.mv (.t 10))) .nil))) t123_2)) t123_3)
def t123_4 := b123_4
theorem u123_4 : vcK P t123_4 k e w = vcK P b123_4 k e w := rfl
abbrev b123_5 : X := (.seq (.cond (.t 9) .skip (.exit 0)) t123_4)
def t123_5 := b123_5
theorem u123_5 : vcK P t123_5 k e w = vcK P b123_5 k e w := rfl
abbrev b123_6 : X := (.seq (.reg [0, 1, 7, 8, 9] (.c (.q 9 [] (.bin .lss (.t 8) (.t 7))) .nil)) t123_5)
def t123_6 := b123_6
theorem u123_6 : vcK P t123_6 k e w = vcK P b123_6 k e w := rfl
abbrev b123_7 : X := (.blk 0 (.loop [8] [0, 1, 7] t123_6))
def t123_7 := b123_7
theorem u123_7 : vcK P t123_7 k e w = vcK P b123_7 k e w := rfl
abbrev b123_8 : X := (.seq (.reg [4] (.c (.q 4 [] (.mv (.c (.int .i64 (-1))))) .nil)) .ret)
def t123_8 := b123_8
theorem u123_8 : vcK P t123_8 k e w = vcK P b123_8 k e w := rfl
abbrev b123_9 : X := (.seq (.seq (.reg [0, 1, 7, 8] (.c (.q 6 [] (.mv (.t 0))) (.c (.q 7 [] (.lens (.t 6))) (.c (.q 8 [] (.mv (.c (.int .i64 0)))) .nil)))) t123_7) t123_8)
def t123_9 := b123_9
theorem u123_9 : vcK P t123_9 k e w = vcK P b123_9 k e w := rfl
abbrev b123_0 : X := (.seq (.reg [0, 1] (.c (.q 4 [] (.mv (.c (.int .i64 0)))) .nil)) t123_9)
def x_xslices_Index_int_int := b123_0
theorem u123_0 : vcK P x_xslices_Index_int_int k e w = vcK P b123_0 k e w := rfl
def r_xslices_Index_int_int : List XO := [(.mv (.t 4))]
theorem c_xslices_Index_int_int : convF Try.prog [38, 39, 41, 42, 49, 54, 55, 57, 58, 59, 73, 79, 81, 84, 87, 139] Try.f123 [([0, 1], []), ([0, 1, 7, 8], []), ([8], [0, 1, 7]), ([0, 1, 7, 8, 9], []), ([0, 1, 5, 7, 8], []), ([0, 1, 5, 7, 8, 16], []), ([4], []), ([0, 1, 7, 8], []), ([4], [])] = some (x_xslices_Index_int_int, r_xslices_Index_int_int) := by kernel_rfl
def us_xslices_Index_int_int :=  (aI (aI (aI @u123_0 @u123_1) (aI @u123_2 (aI @u123_3 @u123_4))) (aI (aI @u123_5 @u123_6) (aI @u123_7 (aI @u123_8 @u123_9))))
abbrev b122_1 : X := (.seq (.reg [4] (.c (.q 5 [] (.mv (.t 0))) (.c (.q 6 [] (.mv (.t 1))) (.c (.e (some 7) [] (.call false 123 [(.t 5), (.t 6)])) (.c (.q 8 [] (.bin .geq (.t 7) (.c (.int .i64 0)))) (.c (.q 4 [] (.mv (.t 8))) .nil)))))) .ret)
def t122_1 := b122_1
theorem u122_1 : vcK P t122_1 k e w = vcK P b122_1 k e w := rfl
abbrev b122_0 : X := (.seq (.reg [0, 1] (.c (.q 4 [] (.mv (.c (.bool false)))) .nil)) t122_1)
def x_xslices_Contains_int_int := b122_0
theorem u122_0 : vcK P x_xslices_Contains_int_int k e w = vcK P b122_0 k e w := rfl
def r_xslices_Contains_int_int : List XO := [(.mv (.t 4))]
theorem c_xslices_Contains_int_int : convF Try.prog [38, 39, 41, 42, 49, 54, 55, 57, 58, 59, 73, 79, 81, 84, 87, 139] Try.f122 [([0, 1], []), ([4], [])] = some (x_xslices_Contains_int_int, r_xslices_Contains_int_int) := by kernel_rfl
def us_xslices_Contains_int_int :=  (aI @u122_0 @u122_1)
abbrev b121_1 : X := (.cond (.t 6) (.seq (.reg [2] (.c (.e (some 7) [] (.bsl 3 1 [])) (.c (.q 2 [] (.mv (.t 7))) .nil))) .ret) .skip)
def t121_1 := b121_1
theorem u121_1 : vcK P t121_1 k e w = vcK P b121_1 k e w := rfl
abbrev b121_2 : X := (.seq (.reg [2] (.c (.q 13 [] (.mv (.t 3))) (.c (.q 2 [] (.mv (.t 13))) .nil))) .ret)
def t121_2 := b121_2
theorem u121_2 : vcK P t121_2 k e w = vcK P b121_2 k e w := rfl
abbrev b121_3 : X := (.seq (.reg [3] (.c (.q 9 [] (.mv (.t 0))) (.c (.e (some 10) [] (.call false 47 [(.t 9)])) (.c (.q 8 [] (.mv (.t 10))) (.c (.q 11 [] (.ext 0 (.t 8))) (.c (.q 12 [] (.ext 1 (.t 8))) (.c (.q 3 [] (.mv (.t 11))) (.c (.q 4 [] (.mv (.t 12))) .nil)))))))) t121_2)
def t121_3 := b121_3
theorem u121_3 : vcK P t121_3 k e w = vcK P b121_3 k e w := rfl
abbrev b121_4 : X := (.seq (.seq (.reg [0, 6] (.c (.q 5 [] (.mv (.t 0))) (.c (.q 6 [] (.bin .eql (.t 5) (.s [45]))) .nil))) t121_1) t121_3)
def t121_4 := b121_4
theorem u121_4 : vcK P t121_4 k e w = vcK P b121_4 k e w := rfl
abbrev b121_0 : X := (.seq (.reg [0] (.c (.q 2 [] (.mv (.c (.slice none 0 0)))) .nil)) t121_4)
def x_iplacesOf := b121_0
theorem u121_0 : vcK P x_iplacesOf k e w = vcK P b121_0 k e w := rfl
def r_iplacesOf : List XO := [(.mv (.t 2))]
theorem c_iplacesOf : convF Try.prog [38, 39, 41, 42, 49, 54, 55, 57, 58, 59, 73, 79, 81, 84, 87, 139] Try.f121 [([0], []), ([0, 6], []), ([2], []), ([3], []), ([2], [])] = some (x_iplacesOf, r_iplacesOf) := by kernel_rfl
def us_iplacesOf :=  (aI (aI @u121_0 @u121_1) (aI @u121_2 (aI @u121_3 @u121_4)))
abbrev b120_1 : X := (.cond (.t 13) .skip (.exit 0))
def t120_1 := b120_1
theorem u120_1 : vcK P t120_1 k e w = vcK P b120_1 k e w := rfl
abbrev b120_2 : X := (.reg [0, 5, 6, 7] (.c (.q 24 [] (.mv (.t 7))) (.c (.q 25 [] (.bin .add (.t 24) (.c (.int .i64 1)))) (.c (.q 7 [] (.mv (.t 25))) .nil))))
def t120_2 := b120_2
theorem u120_2 : vcK P t120_2 k e w = vcK P b120_2 k e w := rfl
abbrev b120_3 : X := (.cond (.t 19) (.seq (.reg [0, 5, 6, 7] (.c (.q 20 [] (.mv (.t 6))) (.c (.q 21 [] (.mv (.t 7))) (.c (.e (some 22) [] (.bsl 3 1 [(.t 21)])) (.c (.e (some 23) [] (.app 69 3 1 8 [(.int .i64 0)] 69 (.t 20) (.t 22))) (.c (.q 6 [] (.mv (.t 23))) .nil)))))) t120_2) .skip)
def t120_3 := b120_3
theorem u120_3 : vcK P t120_3 k e w = vcK P b120_3 k e w := rfl
abbrev b120_4 : X := (.reg [0, 5, 6, 7] (.c (.q 14 [] (.mv (.t 7))) (.c (.q 15 [] (.bin .add (.t 14) (.c (.int .i64 1)))) (.c (.q 7 [] (.mv (.t 15))) .nil))))
def t120_4 := b120_4
theorem u120_4 : vcK P t120_4 k e w = vcK P b120_4 k e w := rfl
abbrev b120_5 : X := (.seq (.blk 1 (.seq (.reg [0, 5, 6, 7, 19] (.c (.q 16 [] (.mv (.t 5))) (.c (.q 17 [] (.mv (.t 7))) (.c (.e (some 18) [] (.call false 122 [(.t 16), (.t 17)])) (.c (.q 19 [] (.not (.t 18))) .nil))))) t120_3)) t120_4)
def t120_5 := b120_5
theorem u120_5 : vcK P t120_5 k e w = vcK P b120_5 k e w := rfl
abbrev b120_6 : X := (.seq (.seq (.reg [0, 5, 6, 7, 13] (.c (.q 11 [] (.mv (.t 7))) (.c (.q 12 [] (.mv (.t 0))) (.c (.q 13 [] (.bin .lss (.t 11) (.t 12))) .nil)))) t120_1) t120_5)
def t120_6 := b120_6
theorem u120_6 : vcK P t120_6 k e w = vcK P b120_6 k e w := rfl
abbrev b120_7 : X := (.blk 0 (.loop [6, 7] [0, 5] t120_6))
def t120_7 := b120_7
theorem u120_7 : vcK P t120_7 k e w = vcK P b120_7 k e w := rfl
abbrev b120_8 : X := (.seq (.reg [4] (.c (.q 26 [] (.mv (.t 6))) (.c (.q 4 [] (.mv (.t 26))) .nil))) .ret)
def t120_8 := b120_8
theorem u120_8 : vcK P t120_8 k e w = vcK P b120_8 k e w := rfl
abbrev b120_9 : X := (.seq (.seq (.reg [0, 5, 6, 7] (.c (.q 7 [] (.mv (.c (.int .i64 1)))) .nil)) t120_7) t120_8)
def t120_9 := b120_9
theorem u120_9 : vcK P t120_9 k e w = vcK P b120_9 k e w := rfl
abbrev b120_10 : X := (.seq (.reg [0, 5, 6] (.c (.e (some 10) [] (.bsl 3 1 [])) (.c (.q 6 [] (.mv (.t 10))) .nil))) t120_9)
def t120_10 := b120_10
theorem u120_10 : vcK P t120_10 k e w = vcK P b120_10 k e w := rfl
abbrev b120_11 : X := (.seq (.reg [0, 5] (.c (.q 8 [] (.mv (.t 1))) (.c (.e (some 9) [] (.call false 121 [(.t 8)])) (.c (.q 5 [] (.mv (.t 9))) .nil)))) t120_10)
def t120_11 := b120_11
theorem u120_11 : vcK P t120_11 k e w = vcK P b120_11 k e w := rfl
abbrev b120_0 : X := (.seq (.reg [0, 1] (.c (.q 4 [] (.mv (.c (.slice none 0 0)))) .nil)) t120_11)
def x_iswapsOf := b120_0
theorem u120_0 : vcK P x_iswapsOf k e w = vcK P b120_0 k e w := rfl
def r_iswapsOf : List XO := [(.mv (.t 4))]
theorem c_iswapsOf : convF Try.prog [38, 39, 41, 42, 49, 54, 55, 57, 58, 59, 73, 79, 81, 84, 87, 139] Try.f120 [([0, 1], []), ([0, 5], []), ([0, 5, 6], []), ([0, 5, 6, 7], []), ([6, 7], [0, 5]), ([0, 5, 6, 7, 13], []), ([0, 5, 6, 7, 19], []), ([0, 5, 6, 7], []), ([0, 5, 6, 7], []), ([0, 5, 6, 7], []), ([4], [])] = some (x_iswapsOf, r_iswapsOf) := by kernel_rfl
def us_iswapsOf :=  (aI (aI (aI @u120_0 (aI @u120_1 @u120_2)) (aI @u120_3 (aI @u120_4 @u120_5))) (aI (aI @u120_6 (aI @u120_7 @u120_8)) (aI @u120_9 (aI @u120_10 @u120_11))))
abbrev b118_1 : X := (.drw [5, 13, 14, 15] (.c (.q 19 [] (.mv (.t 5))) (.c (.q 20 [] (.mv (.t 7))) (.c (.q 21 [] (.bin .sub (.t 20) (.c (.int .i64 1)))) (.c (.q 22 [] (.mv (.t 5))) (.c (.q 23 [] (.mv (.t 7))) (.c (.q 24 [] (.mv (.t 5))) (.c (.q 25 [] (.mv (.t 7))) (.c (.q 26 [] (.ia 1 (.t 24) (.t 25))) (.c (.q 27 [] (.ld (.t 26))) (.c (.q 28 [] (.mv (.t 5))) (.c (.q 29 [] (.mv (.t 7))) (.c (.q 30 [] (.bin .sub (.t 29) (.c (.int .i64 1)))) (.c (.q 31 [] (.ia 1 (.t 28) (.t 30))) (.c (.q 32 [] (.ld (.t 31))) (.c (.q 33 [] (.ia 1 (.t 19) (.t 21))) (.c (.e none [] (.st 1 (.t 33) (.t 27))) (.c (.q 34 [] (.ia 1 (.t 22) (.t 23))) (.c (.e none [] (.st 1 (.t 34) (.t 32))) .nil)))))))))))))))))))
def t118_1 := b118_1
theorem u118_1 : vcK P t118_1 k e w = vcK P b118_1 k e w := rfl
abbrev b118_2 : X := (.reg [5, 13, 14, 15] (.c (.q 35 [] (.bin .add (.t 15) (.c (.int .i64 1)))) (.c (.q 15 [] (.mv (.t 35))) .nil)))
def t118_2 := b118_2
theorem u118_2 : vcK P t118_2 k e w = vcK P b118_2 k e w := rfl
abbrev b118_3 : X := (.seq (.blk 1 (.seq (.reg [5, 7, 13, 14, 15] (.c (.q 17 [] (.ia 1 (.t 13) (.t 15))) (.c (.q 18 [] (.ld (.t 17))) (.c (.q 7 [] (.mv (.t 18))) .nil)))) t118_1)) t118_2)
def t118_3 := b118_3
theorem u118_3 : vcK P t118_3 k e w = vcK P b118_3 k e w := rfl
abbrev b118_4 : X := (.seq (.cond (.t 16) .skip (.exit 0)) t118_3)
def t118_4 := b118_4
theorem u118_4 : vcK P t118_4 k e w = vcK P b118_4 k e w := rfl
abbrev b118_5 : X := (.seq (.reg [5, 13, 14, 15, 16] (.c (.q 16 [] (.bin .lss (.t 15) (.t 14))) .nil)) t118_4)
def t118_5 := b118_5
theorem u118_5 : vcK P t118_5 k e w = vcK P b118_5 k e w := rfl
abbrev b118_6 : X := (.blk 0 (.loop [15] [5, 13, 14] t118_5))
def t118_6 := b118_6
theorem u118_6 : vcK P t118_6 k e w = vcK P b118_6 k e w := rfl
abbrev b118_7 : X := (.seq (.reg [4] (.c (.q 36 [] (.mv (.t 5))) (.c (.e (some 37) [] (.b2s (.t 36))) (.c (.q 4 [] (.mv (.t 37))) .nil)))) .ret)
def t118_7 := b118_7
theorem u118_7 : vcK P t118_7 k e w = vcK P b118_7 k e w := rfl
abbrev b118_8 : X := (.seq (.seq (.reg [5, 13, 14, 15] (.c (.q 11 [] (.mv (.t 0))) (.c (.q 12 [] (.mv (.t 1))) (.c (.e (some 13) [] (.call false 120 [(.t 11), (.t 12)])) (.c (.q 14 [] (.lens (.t 13))) (.c (.q 15 [] (.mv (.c (.int .i64 0)))) .nil)))))) t118_6) t118_7)
def t118_8 := b118_8
theorem u118_8 : vcK P t118_8 k e w = vcK P b118_8 k e w := rfl
abbrev b118_9 : X := (.seq (.reg [0, 1, 5] (.c (.q 8 [] (.mv (.t 0))) (.c (.e (some 9) [] (.call false 44 [(.t 8)])) (.c (.e (some 10) [] (.s2b 5 (.t 9))) (.c (.q 5 [] (.mv (.t 10))) .nil))))) t118_8)
def t118_9 := b118_9
theorem u118_9 : vcK P t118_9 k e w = vcK P b118_9 k e w := rfl
abbrev b118_0 : X := (.seq (.reg [0, 1] (.c (.q 4 [] (.mv (.s []))) .nil)) t118_9)
def x_ichangeRow := b118_0
theorem u118_0 : vcK P x_ichangeRow k e w = vcK P b118_0 k e w := rfl
def r_ichangeRow : List XO := [(.mv (.t 4))]
theorem c_ichangeRow : convF Try.prog [38, 39, 41, 42, 49, 54, 55, 57, 58, 59, 73, 79, 81, 84, 87, 139] Try.f118 [([0, 1], []), ([0, 1, 5], []), ([5, 13, 14, 15], []), ([15], [5, 13, 14]), ([5, 13, 14, 15, 16], []), ([5, 7, 13, 14, 15], []), ([5, 13, 14, 15], []), ([5, 13, 14, 15], []), ([4], [])] = some (x_ichangeRow, r_ichangeRow) := by kernel_rfl
def us_ichangeRow :=  (aI (aI (aI @u118_0 @u118_1) (aI @u118_2 (aI @u118_3 @u118_4))) (aI (aI @u118_5 @u118_6) (aI @u118_7 (aI @u118_8 @u118_9))))
abbrev b90_1 : X := (.reg [0, 1, 5, 11, 12] (.c (.q 15 [] (.mv (.t 5))) (.c (.q 16 [] (.mv (.t 6))) (.c (.q 17 [] (.mv (.t 0))) (.c (.q 18 [] (.mv (.t 1))) (.c (.q 19 [] (.mv (.t 6))) (.c (.q 20 [] (.idx (.t 18) (.t 19))) (.c (.q 21 [] (.bin .sub (.t 20) (.c (.int .u8 49)))) (.c (.q 22 [] (.idx (.t 17) (.t 21))) (.c (.q 23 [] (.ia 1 (.t 15) (.t 16))) (.c (.e none [] (.st 1 (.t 23) (.t 22))) .nil)))))))))))
def t90_1 := b90_1
theorem u90_1 : vcK P t90_1 k e w = vcK P b90_1 k e w := rfl
abbrev b90_2 : X := (.reg [0, 1, 5, 11, 12] (.c (.q 24 [] (.bin .add (.t 12) (.c (.int .i64 1)))) (.c (.q 12 [] (.mv (.t 24))) .nil)))
def t90_2 := b90_2
theorem u90_2 : vcK P t90_2 k e w = vcK P b90_2 k e w := rfl
abbrev b90_3 : X := (.seq (.blk 1 (.seq (.reg [0, 1, 5, 6, 11, 12] (.c (.q 14 [] (.mv (.t 12))) (.c (.q 6 [] (.mv (.t 14))) .nil))) t90_1)) t90_2)
def t90_3 := b90_3
theorem u90_3 : vcK P t90_3 k e w = vcK P b90_3 k e w := rfl
abbrev b90_4 : X := (.seq (.cond (.t 13) .skip (.exit 0)) t90_3)
def t90_4 := b90_4
theorem u90_4 : vcK P t90_4 k e w = vcK P b90_4 k e w := rfl
abbrev b90_5 : X := (.seq (.reg [0, 1, 5, 11, 12, 13] (.c (.q 13 [] (.bin .lss (.t 12) (.t 11))) .nil)) t90_4)
def t90_5 := b90_5
theorem u90_5 : vcK P t90_5 k e w = vcK P b90_5 k e w := rfl
abbrev b90_6 : X := (.blk 0 (.loop [12] [0, 1, 5, 11] t90_5))
def t90_6 := b90_6
theorem u90_6 : vcK P t90_6 k e w = vcK P b90_6 k e w := rfl
abbrev b90_7 : X := (.seq (.reg [4] (.c (.q 25 [] (.mv (.t 5))) (.c (.e (some 26) [] (.b2s (.t 25))) (.c (.q 4 [] (.mv (.t 26))) .nil)))) .ret)
def t90_7 := b90_7
theorem u90_7 : vcK P t90_7 k e w = vcK P b90_7 k e w := rfl
abbrev b90_8 : X := (.seq (.seq (.reg [0, 1, 5, 11, 12] (.c (.q 10 [] (.mv (.t 5))) (.c (.q 11 [] (.lens (.t 10))) (.c (.q 12 [] (.mv (.c (.int .i64 0)))) .nil)))) t90_6) t90_7)
def t90_8 := b90_8
theorem u90_8 : vcK P t90_8 k e w = vcK P b90_8 k e w := rfl
abbrev b90_9 : X := (.seq (.reg [0, 1, 5] (.c (.q 7 [] (.mv (.t 1))) (.c (.q 8 [] (.len (.t 7))) (.c (.e (some 9) [] (.msl 22 5 1 1 [(.int .u8 0)] (.t 8) (.t 8))) (.c (.q 5 [] (.mv (.t 9))) .nil))))) t90_8)
def t90_9 := b90_9
theorem u90_9 : vcK P t90_9 k e w = vcK P b90_9 k e w := rfl
abbrev b90_0 : X := (.seq (.reg [0, 1] (.c (.q 4 [] (.mv (.s []))) .nil)) t90_9)
def x_itimes := b90_0
theorem u90_0 : vcK P x_itimes k e w = vcK P b90_0 k e w := rfl
def r_itimes : List XO := [(.mv (.t 4))]
theorem c_itimes : convF Try.prog [38, 39, 41, 42, 49, 54, 55, 57, 58, 59, 73, 79, 81, 84, 87, 139] Try.f90 [([0, 1], []), ([0, 1, 5], []), ([0, 1, 5, 11, 12], []), ([12], [0, 1, 5, 11]), ([0, 1, 5, 11, 12, 13], []), ([0, 1, 5, 6, 11, 12], []), ([0, 1, 5, 11, 12], []), ([0, 1, 5, 11, 12], []), ([4], [])] = some (x_itimes, r_itimes) := by kernel_rfl
def us_itimes :=  (aI (aI (aI @u90_0 @u90_1) (aI @u90_2 (aI @u90_3 @u90_4))) (aI (aI @u90_5 @u90_6) (aI @u90_7 (aI @u90_8 @u90_9))))
abbrev b114_1 : X := (.seq (.reg [4] (.c (.q 5 [] (.mv (.t 0))) (.c (.q 6 [] (.mv (.t 0))) (.c (.q 7 [] (.len (.t 6))) (.c (.q 8 [] (.mv (.t 1))) (.c (.e (some 9) [] (.call false 118 [(.t 7), (.t 8)])) (.c (.e (some 10) [] (.call false 90 [(.t 5), (.t 9)])) (.c (.q 4 [] (.mv (.t 10))) .nil)))))))) .ret)
def t114_1 := b114_1
theorem u114_1 : vcK P t114_1 k e w = vcK P b114_1 k e w := rfl
abbrev b114_0 : X := (.seq (.reg [0, 1] (.c (.q 4 [] (.mv (.s []))) .nil)) t114_1)
def x_iapply := b114_0
theorem u114_0 : vcK P x_iapply k e w = vcK P b114_0 k e w := rfl
def r_iapply : List XO := [(.mv (.t 4))]
theorem c_iapply : convF Try.prog [38, 39, 41, 42, 49, 54, 55, 57, 58, 59, 73, 79, 81, 84, 87, 139] Try.f114 [([0, 1], []), ([4], [])] = some (x_iapply, r_iapply) := by kernel_rfl
def us_iapply :=  (aI @u114_0 @u114_1)
abbrev b119_1 : X := (.cond (.t 9) .skip (.exit 0))
def t119_1 := b119_1
theorem u119_1 : vcK P t119_1 k e w = vcK P b119_1 k e w := rfl
abbrev b119_2 : X := (.cond (.t 18) (.seq (.reg [4] (.c (.q 4 [] (.mv (.c (.bool true)))) .nil)) .ret) .skip)
def t119_2 := b119_2
theorem u119_2 : vcK P t119_2 k e w = vcK P b119_2 k e w := rfl
abbrev b119_3 : X := (.reg [0, 1, 5] (.c (.q 10 [] (.mv (.t 5))) (.c (.q 11 [] (.bin .add (.t 10) (.c (.int .i64 1)))) (.c (.q 5 [] (.mv (.t 11))) .nil))))
def t119_3 := b119_3
theorem u119_3 : vcK P t119_3 k e w = vcK P b119_3 k e w := rfl
abbrev b119_4 : X := (.seq (.blk 1 (.seq (.reg [0, 1, 5, 18] (.c (.q 12 [] (.mv (.t 0))) (.c (.q 13 [] (.mv (.t 5))) (.c (.q 14 [] (.idx (.t 12) (.t 13))) (.c (.q 15 [] (.cvi .i64 (.t 14))) (.c (.q 16 [] (.bin .sub (.t 15) (.c (.int .i64 48)))) (.c (.q 17 [] (.mv (.t 1))) (.c (.q 18 [] (.bin .eql (.t 16) (.t 17))) .nil)))))))) t119_2)) t119_3)
def t119_4 := b119_4
theorem u119_4 : vcK P t119_4 k e w = vcK P b119_4 k e w := rfl
abbrev b119_5 : X := (.seq (.seq (.reg [0, 1, 5, 9] (.c (.q 6 [] (.mv (.t 5))) (.c (.q 7 [] (.mv (.t 0))) (.c (.q 8 [] (.len (.t 7))) (.c (.q 9 [] (.bin .lss (.t 6) (.t 8))) .nil))))) t119_1) t119_4)
def t119_5 := b119_5
theorem u119_5 : vcK P t119_5 k e w = vcK P b119_5 k e w := rfl
abbrev b119_6 : X := (.blk 0 (.loop [5] [0, 1] t119_5))
def t119_6 := b119_6
theorem u119_6 : vcK P t119_6 k e w = vcK P b119_6 k e w := rfl
abbrev b119_7 : X := (.seq (.reg [4] (.c (.q 4 [] (.mv (.c (.bool false)))) .nil)) .ret)
def t119_7 := b119_7
theorem u119_7 : vcK P t119_7 k e w = vcK P b119_7 k e w := rfl
abbrev b119_8 : X := (.seq (.seq (.reg [0, 1, 5] (.c (.q 5 [] (.mv (.c (.int .i64 0)))) .nil)) t119_6) t119_7)
def t119_8 := b119_8
theorem u119_8 : vcK P t119_8 k e w = vcK P b119_8 k e w := rfl
abbrev b119_0 : X := (.seq (.reg [0, 1] (.c (.q 4 [] (.mv (.c (.bool false)))) .nil)) t119_8)
def x_sl2Stays := b119_0
theorem u119_0 : vcK P x_sl2Stays k e w = vcK P b119_0 k e w := rfl
def r_sl2Stays : List XO := [(.mv (.t 4))]
theorem c_sl2Stays : convF Try.prog [38, 39, 41, 42, 49, 54, 55, 57, 58, 59, 73, 79, 81, 84, 87, 139] Try.f119 [([0, 1], []), ([0, 1, 5], []), ([5], [0, 1]), ([0, 1, 5, 9], []), ([0, 1, 5, 18], []), ([4], []), ([0, 1, 5], []), ([4], [])] = some (x_sl2Stays, r_sl2Stays) := by kernel_rfl
def us_sl2Stays :=  (aI (aI (aI @u119_0 @u119_1) (aI @u119_2 @u119_3)) (aI (aI @u119_4 @u119_5) (aI @u119_6 (aI @u119_7 @u119_8))))
abbrev b117_1 : X := (.cond (.t 12) .skip (.exit 0))
def t117_1 := b117_1
theorem u117_1 : vcK P t117_1 k e w = vcK P b117_1 k e w := rfl
abbrev b117_2 : X := (.reg [0, 1, 5, 6] (.c (.q 32 [] (.mv (.t 6))) (.c (.q 33 [] (.bin .add (.t 32) (.c (.int .i64 1)))) (.c (.q 6 [] (.mv (.t 33))) .nil))))
def t117_2 := b117_2
theorem u117_2 : vcK P t117_2 k e w = vcK P b117_2 k e w := rfl
abbrev b117_3 : X := (.seq (.reg [0, 1, 5, 6] (.c (.q 26 [] (.mv (.t 5))) (.c (.q 27 [] (.mv (.t 6))) (.c (.q 28 [] (.mv (.t 6))) (.c (.q 29 [] (.bin .add (.c (.int .i64 48)) (.t 28))) (.c (.q 30 [] (.cvi .u8 (.t 29))) (.c (.q 31 [] (.ia 1 (.t 26) (.t 27))) (.c (.e none [] (.st 1 (.t 31) (.t 30))) .nil)))))))) t117_2)
def t117_3 := b117_3
theorem u117_3 : vcK P t117_3 k e w = vcK P b117_3 k e w := rfl
abbrev b117_4 : X := (.cond (.t 18) (.seq (.reg [0, 1, 5, 6] (.c (.q 19 [] (.mv (.t 5))) (.c (.q 20 [] (.mv (.t 6))) (.c (.q 21 [] (.bin .sub (.t 20) (.c (.int .i64 1)))) (.c (.q 22 [] (.mv (.t 6))) (.c (.q 23 [] (.bin .add (.c (.int .i64 49)) (.t 22))) (.c (.q 24 [] (.cvi .u8 (.t 23))) (.c (.q 25 [] (.ia 1 (.t 19) (.t 21))) (.c (.e none [] (.st 1 (.t 25) (.t 24))) .nil))))))))) t117_3) .skip)
def t117_4 := b117_4
theorem u117_4 : vcK P t117_4 k e w = vcK P b117_4 k e w := rfl
abbrev b117_5 : X := (.reg [0, 1, 5, 6] (.c (.q 13 [] (.mv (.t 6))) (.c (.q 14 [] (.bin .add (.t 13) (.c (.int .i64 1)))) (.c (.q 6 [] (.mv (.t 14))) .nil))))
def t117_5 := b117_5
theorem u117_5 : vcK P t117_5 k e w = vcK P b117_5 k e w := rfl
abbrev b117_6 : X := (.seq (.blk 1 (.seq (.reg [0, 1, 5, 6, 18] (.c (.q 15 [] (.mv (.t 1))) (.c (.q 16 [] (.mv (.t 6))) (.c (.e (some 17) [] (.call false 119 [(.t 15), (.t 16)])) (.c (.q 18 [] (.not (.t 17))) .nil))))) t117_4)) t117_5)
def t117_6 := b117_6
theorem u117_6 : vcK P t117_6 k e w = vcK P b117_6 k e w := rfl
abbrev b117_7 : X := (.seq (.seq (.reg [0, 1, 5, 6, 12] (.c (.q 10 [] (.mv (.t 6))) (.c (.q 11 [] (.mv (.t 0))) (.c (.q 12 [] (.bin .lss (.t 10) (.t 11))) .nil)))) t117_1) t117_6)
def t117_7 := b117_7
theorem u117_7 : vcK P t117_7 k e w = vcK P b117_7 k e w := rfl
abbrev b117_8 : X := (.blk 0 (.loop [6] [0, 1, 5] t117_7))
def t117_8 := b117_8
theorem u117_8 : vcK P t117_8 k e w = vcK P b117_8 k e w := rfl
abbrev b117_9 : X := (.seq (.reg [4] (.c (.q 34 [] (.mv (.t 5))) (.c (.e (some 35) [] (.b2s (.t 34))) (.c (.q 4 [] (.mv (.t 35))) .nil)))) .ret)
def t117_9 := b117_9
theorem u117_9 : vcK P t117_9 k e w = vcK P b117_9 k e w := rfl
abbrev b117_10 : X := (.seq (.seq (.reg [0, 1, 5, 6] (.c (.q 6 [] (.mv (.c (.int .i64 1)))) .nil)) t117_8) t117_9)
def t117_10 := b117_10
theorem u117_10 : vcK P t117_10 k e w = vcK P b117_10 k e w := rfl
abbrev b117_11 : X := (.seq (.reg [0, 1, 5] (.c (.q 7 [] (.mv (.t 0))) (.c (.e (some 8) [] (.call false 68 [(.t 7)])) (.c (.e (some 9) [] (.s2b 5 (.t 8))) (.c (.q 5 [] (.mv (.t 9))) .nil))))) t117_10)
def t117_11 := b117_11
theorem u117_11 : vcK P t117_11 k e w = vcK P b117_11 k e w := rfl
abbrev b117_0 : X := (.seq (.reg [0, 1] (.c (.q 4 [] (.mv (.s []))) .nil)) t117_11)
def x_sl2Row := b117_0
theorem u117_0 : vcK P x_sl2Row k e w = vcK P b117_0 k e w := rfl
def r_sl2Row : List XO := [(.mv (.t 4))]
theorem c_sl2Row : convF Try.prog [38, 39, 41, 42, 49, 54, 55, 57, 58, 59, 73, 79, 81, 84, 87, 139] Try.f117 [([0, 1], []), ([0, 1, 5], []), ([0, 1, 5, 6], []), ([6], [0, 1, 5]), ([0, 1, 5, 6, 12], []), ([0, 1, 5, 6, 18], []), ([0, 1, 5, 6], []), ([0, 1, 5, 6], []), ([0, 1, 5, 6], []), ([0, 1, 5, 6], []), ([4], [])] = some (x_sl2Row, r_sl2Row) := by kernel_rfl
def us_sl2Row :=  (aI (aI (aI @u117_0 (aI @u117_1 @u117_2)) (aI @u117_3 (aI @u117_4 @u117_5))) (aI (aI @u117_6 (aI @u117_7 @u117_8)) (aI @u117_9 (aI @u117_10 @u117_11))))
abbrev b115_1 : X := (.seq (.reg [4] (.c (.q 5 [] (.mv (.t 0))) (.c (.q 6 [] (.mv (.t 1))) (.c (.q 7 [] (.bin .sub (.t 6) (.c (.int .i64 1)))) (.c (.q 8 [] (.idx (.t 5) (.t 7))) (.c (.q 9 [] (.bin .sub (.t 8) (.c (.int .u8 48)))) (.c (.q 10 [] (.cvi .i64 (.t 9))) (.c (.q 4 [] (.mv (.t 10))) .nil)))))))) .ret)
def t115_1 := b115_1
theorem u115_1 : vcK P t115_1 k e w = vcK P b115_1 k e w := rfl
abbrev b115_0 : X := (.seq (.reg [0, 1] (.c (.q 4 [] (.mv (.c (.int .i64 0)))) .nil)) t115_1)
def x_sl1At := b115_0
theorem u115_0 : vcK P x_sl1At k e w = vcK P b115_0 k e w := rfl
def r_sl1At : List XO := [(.mv (.t 4))]
theorem c_sl1At : convF Try.prog [38, 39, 41, 42, 49, 54, 55, 57, 58, 59, 73, 79, 81, 84, 87, 139] Try.f115 [([0, 1], []), ([4], [])] = some (x_sl1At, r_sl1At) := by kernel_rfl
def us_sl1At :=  (aI @u115_0 @u115_1)
abbrev b106_1 : X := (.cond (.t 11) .skip (.exit 0))
def t106_1 := b106_1
theorem u106_1 : vcK P t106_1 k e w = vcK P b106_1 k e w := rfl
abbrev b106_2 : X := (.reg [0, 1, 5, 6] (.c (.q 17 [] (.mv (.t 5))) (.c (.q 18 [] (.mv (.t 0))) (.c (.q 19 [] (.mv (.t 7))) (.c (.q 20 [] (.bin .sub (.t 19) (.c (.int .i64 1)))) (.c (.q 21 [] (.mv (.t 7))) (.c (.q 22 [] (.sub (.t 18) (some (.t 20)) (some (.t 21)))) (.c (.q 23 [] (.bin .add (.t 17) (.t 22))) (.c (.q 5 [] (.mv (.t 23))) .nil)))))))))
def t106_2 := b106_2
theorem u106_2 : vcK P t106_2 k e w = vcK P b106_2 k e w := rfl
abbrev b106_3 : X := (.reg [0, 1, 5, 6] (.c (.q 12 [] (.mv (.t 6))) (.c (.q 13 [] (.bin .add (.t 12) (.c (.int .i64 1)))) (.c (.q 6 [] (.mv (.t 13))) .nil))))
def t106_3 := b106_3
theorem u106_3 : vcK P t106_3 k e w = vcK P b106_3 k e w := rfl
abbrev b106_4 : X := (.seq (.blk 1 (.seq (.reg [0, 1, 5, 6, 7] (.c (.q 14 [] (.mv (.t 1))) (.c (.q 15 [] (.mv (.t 6))) (.c (.e (some 16) [] (.call false 115 [(.t 14), (.t 15)])) (.c (.q 7 [] (.mv (.t 16))) .nil))))) t106_2)) t106_3)
def t106_4 := b106_4
theorem u106_4 : vcK P t106_4 k e w = vcK P b106_4 k e w := rfl
abbrev b106_5 : X := (.seq (.seq (.reg [0, 1, 5, 6, 11] (.c (.q 8 [] (.mv (.t 6))) (.c (.q 9 [] (.mv (.t 1))) (.c (.q 10 [] (.len (.t 9))) (.c (.q 11 [] (.bin .leq (.t 8) (.t 10))) .nil))))) t106_1) t106_4)
def t106_5 := b106_5
theorem u106_5 : vcK P t106_5 k e w = vcK P b106_5 k e w := rfl
abbrev b106_6 : X := (.blk 0 (.loop [5, 6] [0, 1] t106_5))
def t106_6 := b106_6
theorem u106_6 : vcK P t106_6 k e w = vcK P b106_6 k e w := rfl
abbrev b106_7 : X := (.seq (.reg [4] (.c (.q 24 [] (.mv (.t 5))) (.c (.q 4 [] (.mv (.t 24))) .nil))) .ret)
def t106_7 := b106_7
theorem u106_7 : vcK P t106_7 k e w = vcK P b106_7 k e w := rfl
abbrev b106_8 : X := (.seq (.seq (.reg [0, 1, 5, 6] (.c (.q 6 [] (.mv (.c (.int .i64 1)))) .nil)) t106_6) t106_7)
def t106_8 := b106_8
theorem u106_8 : vcK P t106_8 k e w = vcK P b106_8 k e w := rfl
abbrev b106_9 : X := (.seq (.reg [0, 1, 5] (.c (.q 5 [] (.mv (.s []))) .nil)) t106_8)
def t106_9 := b106_9
theorem u106_9 : vcK P t106_9 k e w = vcK P b106_9 k e w := rfl
abbrev b106_0 : X := (.seq (.reg [0, 1] (.c (.q 4 [] (.mv (.s []))) .nil)) t106_9)
def x_sl1Times := b106_0
theorem u106_0 : vcK P x_sl1Times k e w = vcK P b106_0 k e w := rfl
def r_sl1Times : List XO := [(.mv (.t 4))]
theorem c_sl1Times : convF Try.prog [38, 39, 41, 42, 49, 54, 55, 57, 58, 59, 73, 79, 81, 84, 87, 139] Try.f106 [([0, 1], []), ([0, 1, 5], []), ([0, 1, 5, 6], []), ([5, 6], [0, 1]), ([0, 1, 5, 6, 11], []), ([0, 1, 5, 6, 7], []), ([0, 1, 5, 6], []), ([0, 1, 5, 6], []), ([4], [])] = some (x_sl1Times, r_sl1Times) := by kernel_rfl
def us_sl1Times :=  (aI (aI (aI @u106_0 @u106_1) (aI @u106_2 (aI @u106_3 @u106_4))) (aI (aI @u106_5 @u106_6) (aI @u106_7 (aI @u106_8 @u106_9))))
abbrev b108_1 : X := (.seq (.reg [4] (.c (.q 5 [] (.mv (.t 0))) (.c (.q 6 [] (.mv (.t 0))) (.c (.q 7 [] (.len (.t 6))) (.c (.q 8 [] (.mv (.t 1))) (.c (.e (some 9) [] (.call false 117 [(.t 7), (.t 8)])) (.c (.e (some 10) [] (.call false 106 [(.t 5), (.t 9)])) (.c (.q 4 [] (.mv (.t 10))) .nil)))))))) .ret)
def t108_1 := b108_1
theorem u108_1 : vcK P t108_1 k e w = vcK P b108_1 k e w := rfl
abbrev b108_0 : X := (.seq (.reg [0, 1] (.c (.q 4 [] (.mv (.s []))) .nil)) t108_1)
def x_sl2Apply := b108_0
theorem u108_0 : vcK P x_sl2Apply k e w = vcK P b108_0 k e w := rfl
def r_sl2Apply : List XO := [(.mv (.t 4))]
theorem c_sl2Apply : convF Try.prog [38, 39, 41, 42, 49, 54, 55, 57, 58, 59, 73, 79, 81, 84, 87, 139] Try.f108 [([0, 1], []), ([4], [])] = some (x_sl2Apply, r_sl2Apply) := by kernel_rfl
def us_sl2Apply :=  (aI @u108_0 @u108_1)
end
/-- The first k bytes are digits from 1 to 8. -/
def DigUp (c : List UInt8) (k : Nat) : Prop := ∀ i < k, 49 ≤ (c.getD i 0).toNat ∧ (c.getD i 0).toNat ≤ 56
instance (c : List UInt8) (k : Nat) : Decidable (DigUp c k) := by unfold DigUp; infer_instance
theorem DigUp.succ {l : List UInt8} {k : Nat} (h : DigUp l k) (h1 : 49 ≤ (l.getD k 0).toNat ∧ (l.getD k 0).toNat ≤ 56) : DigUp l (k + 1) := fun i hi => by
  by_cases he : i = k
  · subst he; exact h1
  · exact h i (by omega)
/-- The places of a change. -/
def plsL (c : List UInt8) : List Int := c.map fun b => (b.toNat : Int) - 48
theorem plsL_len (c : List UInt8) : (plsL c).length = c.length := by simp [plsL]
theorem plsL_get (c : List UInt8) (i : Nat) (h : i < c.length) : (plsL c).getD i 0 = ((c.getD i 0).toNat : Int) - 48 := getD_map _ 0 _ _ _ h
theorem stays_mem (c : List UInt8) (p : Nat) : stays c p = true ↔ (p : Int) ∈ plsL c := by
  unfold stays plsL
  simp only [List.any_eq_true, beq_iff_eq, List.mem_map]
  constructor
  · rintro ⟨b, hb, he⟩; exact ⟨b, hb, by omega⟩
  · rintro ⟨b, hb, he⟩; exact ⟨b, hb, by omega⟩
theorem stays_dash (p : Nat) : stays [45] p = false := by
  simp [stays]; omega
theorem iplaces_ok (c : List UInt8) (hc : c.length ≤ 1048576) (w : World) : Fn 47 [S c] w (fun v w' => ∃ x, v = .tuple ⟨[x, .bool (decide (DigUp c c.length))]⟩ ∧ (DigUp c c.length → Own fI 1 3 w.heap.size w' x (plsL c))) := by
  (refine callsV_of mix Try.func47 c_iplaces ?_; simp only [↓vsd, vsn, gW, qd, qv, ev, pick, argE, zipE, ne_eq, eq_self, forall_const, implies_true, if_true, if_false, reduceIte, reduceCtorEq, Nat.reduceEqDiff, Nat.reduceAdd, Nat.reduceLT, ↓us_iplaces, r_iplaces])
  refine m_bsl (fun _ h => by cases h) ?_
  rintro b w1 hb hblk hx1 hs1
  simp only [↓vsd, vsn, gW, qd, qv, ev, pick, argE, zipE, ne_eq, eq_self, forall_const, implies_true, if_true, if_false, reduceIte, reduceCtorEq, Nat.reduceEqDiff, Nat.reduceAdd, Nat.reduceLT, ↓us_iplaces, r_iplaces]
  refine m_upto c.length (fun k vs w' => ∃ x, vs = [x, .int .i64 k] ∧ DigUp c k ∧ Own fI 1 3 w.heap.size w' x (plsL (c.take k)) ∧ Ext w w') ⟨_, rfl, fun i hi => absurd hi (Nat.not_lt_zero i), Own.empty fI_len hblk (by omega), hx1⟩ ?_
  rintro k vs w2 hk ⟨x, rfl, hup, ho, hx⟩
  by_cases hlt : k < c.length
  · have hltI : (k : Int) < c.length := by omega
    have hltJ : ¬ (c.length : Int) ≤ k := by omega
    simp only [↓vsd, vsn, gW, qd, qv, ev, pick, argE, zipE, ne_eq, eq_self, forall_const, implies_true, if_true, if_false, reduceIte, reduceCtorEq, Nat.reduceEqDiff, Nat.reduceAdd, Nat.reduceLT, ↓us_iplaces, r_iplaces, hltI, hltJ]
    refine ⟨by omega, fun _ => by omega, fun hbad => ⟨hx, .slice none 0 0, ?_⟩, fun hgood => ⟨by omega, inR_u8 (by omega), inR_i64 (by omega), m_bsl (one_el rfl) ?_⟩⟩
    · have : ¬ DigUp c c.length := fun h => by have := h k hlt; omega
      exact ⟨by simp only [this, decide_false], fun h => absurd h this⟩
    · rintro b3 w3 hb3 hblk3 hx3 hs3
      simp only [↓vsd, vsn, gW, qd, qv, ev, pick, argE, zipE, ne_eq, eq_self, forall_const, implies_true, if_true, if_false, reduceIte, reduceCtorEq, Nat.reduceEqDiff, Nat.reduceAdd, Nat.reduceLT, ↓us_iplaces, r_iplaces]
      refine m_app (ho.ext hx3) (Sq.one fI_len hblk3 rfl) fI_one (by decide) (by simp [plsL]; omega) (by decide) (Nat.le_trans hx.size hx3.size) ?_
      rintro x4 w4 ho4 hg4
      simp only [↓vsd, vsn, gW, qd, qv, ev, pick, argE, zipE, ne_eq, eq_self, forall_const, implies_true, if_true, if_false, reduceIte, reduceCtorEq, Nat.reduceEqDiff, Nat.reduceAdd, Nat.reduceLT, ↓us_iplaces, r_iplaces]
      refine ⟨inR_i64 (by omega), UpTo.next hlt ⟨_, rfl, hup.succ (by omega), ho4.to ?_, (ho.ext hx3).grown (hx.trans hx3) (Nat.le_refl _) hg4⟩⟩
      unfold plsL
      rw [take_map_succ _ 0 _ _ hlt]
  · obtain rfl : k = c.length := by omega
    have hltI : ¬ (c.length : Int) < c.length := by omega
    simp only [↓vsd, vsn, gW, qd, qv, ev, pick, argE, zipE, ne_eq, eq_self, forall_const, implies_true, if_true, if_false, reduceIte, reduceCtorEq, Nat.reduceEqDiff, Nat.reduceAdd, Nat.reduceLT, ↓us_iplaces, r_iplaces, hltI]
    exact ⟨hx, x, by simp [hup], fun _ => ho.to (by rw [List.take_length])⟩
/-- Place i of a change. -/
def pl (c : List UInt8) (i : Nat) : Nat := (c.getD i 0).toNat - 48
theorem plsL_pl {c : List UInt8} {i : Nat} (h : i < c.length) (hd : 48 ≤ (c.getD i 0).toNat) : (plsL c).getD i 0 = (pl c i : Nat) := by
  rw [plsL_get c i h, pl]; omega
theorem iarePlaces_ok (n : Nat) (c : List UInt8) (v : Value) (hn : 3 ≤ n ∧ n ≤ 8) (hc : c.length ≤ 1048576) (hd : DigUp c c.length) (w : World) (h : Sq fI 1 w v (plsL c)) : Fn 48 [.int .i64 n, v] w (fun v _ => v = .bool (decide (IsChange n c))) := by
  (refine callsV_of mix Try.func48 c_iarePlaces ?_; simp only [↓vsd, vsn, gW, qd, qv, ev, pick, argE, zipE, ne_eq, eq_self, forall_const, implies_true, if_true, if_false, reduceIte, reduceCtorEq, Nat.reduceEqDiff, Nat.reduceAdd, Nat.reduceLT, ↓us_iarePlaces, r_iarePlaces])
  by_cases h0 : c = []
  · subst h0
    have hl0 : (((0 : Nat) : Nat) : Int) = 0 := rfl
    have hz : ((0 : Int) = 0) = True := eq_true rfl
    have hno : ¬ IsChange n [] := by rintro ⟨_, h | h⟩; exact absurd h.1 (by decide); exact h.1 rfl
    have hpk : ∀ b, pickV (.bool true) (.bool true) b = .bool true := fun _ => rfl
    simp only [↓vsd, vsn, gW, qd, qv, ev, pick, argE, zipE, ne_eq, eq_self, forall_const, implies_true, if_true, if_false, reduceIte, reduceCtorEq, Nat.reduceEqDiff, Nat.reduceAdd, Nat.reduceLT, ↓us_iarePlaces, r_iarePlaces, h.facts, plsL_len, hl0, hz, hpk]
    exact ⟨Ext.refl _, by simp only [hno, decide_false]⟩
  obtain ⟨m, hm⟩ : ∃ m, c.length = m + 1 := ⟨c.length - 1, by have := List.length_pos_iff.2 h0; omega⟩
  have hI : (c.length : Int) - 1 = (m : Nat) := by omega
  have hl : 0 < (plsL c).length := by rw [plsL_len]; omega
  have hl2 : m < (plsL c).length := by rw [plsL_len]; omega
  have e0 := plsL_pl (i := 0) (by omega : 0 < c.length) (by have := hd 0 (by omega); omega)
  have em := plsL_pl (i := m) (by omega : m < c.length) (by have := hd m (by omega); omega)
  have hne : ¬ ((c.length : Int) = 0) := by omega
  simp only [↓vsd, vsn, gW, qd, qv, ev, pick, argE, zipE, ne_eq, eq_self, forall_const, implies_true, if_true, if_false, reduceIte, reduceCtorEq, Nat.reduceEqDiff, Nat.reduceAdd, Nat.reduceLT, ↓us_iarePlaces, r_iarePlaces, h.facts, plsL_len, hI, h.at0 0 hl, h.at1 0 hl2, e0, em, hne]
  have hd0 := hd 0 (by omega)
  have hdm := hd m (by omega)
  have hp0 : (c.getD 0 0).toNat = 48 + pl c 0 := by unfold pl; omega
  have hpm : (c.getD m 0).toNat = 48 + pl c m := by unfold pl; omega
  have hcm : c.length - 1 = m := by omega
  have hnd : c ≠ [45] := fun e => by have := hd 0 (by omega); rw [e] at this; revert this; decide
  refine ⟨fun _ => by omega, fun _ => by decide, fun _ => inR_i64 (by omega), fun _ => by omega, fun _ => by decide, fun _ => by decide, fun _ => inR_i64 (by omega), fun _ => by omega, fun hbad => ⟨Ext.refl _, ?_⟩, fun hgood => ?_⟩
  · have : ¬ IsChange n c := fun hh => by
      rcases hh.2 with h1 | ⟨h1, h2, h3, h4, h5⟩
      · exact hnd h1.1
      · have h6 := (h3 0 (by omega)).2
        rw [if_pos rfl] at h6
        rw [hcm] at h4 h5
        rcases hbad with ((hb | hb) | hb) | hb <;> omega
    simp only [this, decide_false]
  refine m_upto m (fun k vs w' => vs = [.int .i64 (k + 1 : Nat)] ∧ Chain c (k + 1) ∧ Ext w w') ⟨rfl, fun i hi => ?_, Ext.refl _⟩ ?_
  · obtain rfl : i = 0 := by omega
    rw [if_pos rfl]; omega
  rintro k vs w1 hk ⟨rfl, hch, hx⟩
  have hq := h.ext hx
  by_cases hlt : k + 1 < c.length
  · have hltI : ((k + 1 : Nat) : Int) < c.length := by omega
    have hltJ : ¬ (c.length : Int) ≤ ((k + 1 : Nat) : Int) := by omega
    have hk1 : ((k + 1 : Nat) : Int) - 1 = (k : Nat) := by omega
    have hla : k + 1 < (plsL c).length := by rw [plsL_len]; omega
    have hlb : k < (plsL c).length := by rw [plsL_len]; omega
    have ha := hd (k + 1) hlt
    have hb := hd k (by omega)
    have ea := plsL_pl (i := k + 1) hlt (by omega)
    have eb := plsL_pl (i := k) (by omega : k < c.length) (by omega)
    have hpa : (c.getD (k + 1) 0).toNat = 48 + pl c (k + 1) := by unfold pl; omega
    have hpb : (c.getD k 0).toNat = 48 + pl c k := by unfold pl; omega
    by_cases hgt : pl c k < pl c (k + 1)
    · have hgI : ¬ ((pl c (k + 1) : Nat) : Int) ≤ (pl c k : Nat) := by omega
      have hsub : ((pl c (k + 1) : Nat) : Int) - (pl c k : Nat) = (pl c (k + 1) - pl c k : Nat) := by omega
      simp only [↓vsd, vsn, gW, qd, qv, ev, pick, argE, zipE, ne_eq, eq_self, forall_const, implies_true, if_true, if_false, reduceIte, reduceCtorEq, Nat.reduceEqDiff, Nat.reduceAdd, Nat.reduceLT, ↓us_iarePlaces, r_iarePlaces, hltI, hltJ, hk1, hq.facts, plsL_len, hq.at1 0 hla, hq.at1 0 hlb, ea, eb, hgI, hsub]
      refine ⟨by omega, inR_i64 (by omega), by omega, by omega, inR_i64 (by omega), by omega, inR_i64 (by omega), by decide, fun hev => ⟨hx, ?_⟩, fun hodd => ⟨inR_i64 (by omega), UpTo.next (by omega) ⟨rfl, hch.succ (by omega) (by rw [if_neg (by omega), Nat.add_sub_cancel]; omega), dr hx⟩⟩⟩
      have : ¬ IsChange n c := fun hh => by
        rcases hh.2 with h1 | h1
        · exact hnd h1.1
        · have := (h1.2.2.1 (k + 1) hlt).2
          rw [if_neg (by omega), Nat.add_sub_cancel] at this
          omega
      simp only [this, decide_false]
    · have hgI : ((pl c (k + 1) : Nat) : Int) ≤ (pl c k : Nat) := by omega
      simp only [↓vsd, vsn, gW, qd, qv, ev, pick, argE, zipE, ne_eq, eq_self, forall_const, implies_true, if_true, if_false, reduceIte, reduceCtorEq, Nat.reduceEqDiff, Nat.reduceAdd, Nat.reduceLT, ↓us_iarePlaces, r_iarePlaces, hltI, hltJ, hk1, hq.facts, plsL_len, hq.at1 0 hla, hq.at1 0 hlb, ea, eb, hgI]
      refine ⟨by omega, inR_i64 (by omega), by omega, hx, ?_⟩
      have : ¬ IsChange n c := fun hh => by
        rcases hh.2 with h1 | h1
        · exact hnd h1.1
        · have := (h1.2.2.1 (k + 1) hlt).2
          rw [if_neg (by omega), Nat.add_sub_cancel] at this
          omega
      simp only [this, decide_false]
  · obtain rfl : k = m := by omega
    have hltI : ¬ ((k + 1 : Nat) : Int) < c.length := by omega
    simp only [↓vsd, vsn, gW, qd, qv, ev, pick, argE, zipE, ne_eq, eq_self, forall_const, implies_true, if_true, if_false, reduceIte, reduceCtorEq, Nat.reduceEqDiff, Nat.reduceAdd, Nat.reduceLT, ↓us_iarePlaces, r_iarePlaces, hltI, hq.facts, plsL_len]
    have : IsChange n c := ⟨by omega, .inr ⟨h0, fun e => hgood.1.1.1 e, by rw [hm]; exact hch, by rw [hcm]; omega, by rw [hcm]; omega⟩⟩
    exact ⟨hx, by simp only [this, decide_true]⟩
theorem sl2Change_ok (n : Int) (c : List UInt8) (hc : c.length ≤ 1048576) (w : World) : Fn 76 [.int .i64 n, S c] w (fun v _ => v = .bool (decide (IsChange n c))) := by
  (refine callsV_of mix Try.func76 c_sl2Change ?_; simp only [↓vsd, vsn, gW, qd, qv, ev, pick, argE, zipE, ne_eq, eq_self, forall_const, implies_true, if_true, if_false, reduceIte, reduceCtorEq, Nat.reduceEqDiff, Nat.reduceAdd, Nat.reduceLT, ↓us_sl2Change, r_sl2Change])
  refine m_call (sl1In_ok _ _ _ _) ?_
  rintro _ w1 hx1 rfl
  simp only [↓vsd, vsn, gW, qd, qv, ev, pick, argE, zipE, ne_eq, eq_self, forall_const, implies_true, if_true, if_false, reduceIte, reduceCtorEq, Nat.reduceEqDiff, Nat.reduceAdd, Nat.reduceLT, ↓us_sl2Change, r_sl2Change]
  refine ⟨fun h => inR_i64 (by omega), fun hbad => ⟨hx1, ?_⟩, fun hgood => ⟨fun hdash => ⟨by decide, hx1, ?_⟩, fun hnd => ?_⟩⟩
  · have : ¬ IsChange n c := fun h => by
      have h1 := h.1
      have h2 := h.len
      rcases hbad with (h3 | h3) | h3
      · omega
      · rw [h3] at h2; simp at h2
      · omega
    simp [this]
  · subst hdash
    rw [show n.tmod 2 = n % 2 from Int.tmod_eq_emod_of_nonneg (by omega)]
    congr 1
    refine propext ⟨fun h => ⟨hgood.1.1, .inl ⟨rfl, h⟩⟩, fun h => ?_⟩
    rcases h.2 with h | h
    · exact h.2
    · exact absurd (h.2.2.1 0 (by decide)).1 (by decide)
  · obtain ⟨n, rfl⟩ : ∃ k : Nat, n = k := ⟨n.toNat, by omega⟩
    refine m_upto c.length (fun k vs w' => ∃ last : Nat, vs = [.int .i64 last, .int .i64 k] ∧ (last = if k = 0 then 0 else pl c (k - 1)) ∧ Chain c k ∧ (∀ i < k, (c.getD i 0).toNat ≤ 48 + n) ∧ Ext w w') ⟨0, rfl, rfl, fun i hi => absurd hi (Nat.not_lt_zero i), fun i hi => absurd hi (Nat.not_lt_zero i), hx1⟩ ?_
    rintro k vs w2 hk ⟨last, rfl, hlast, hch, hle, hx⟩
    by_cases hlt : k < c.length
    · have hltI : (k : Int) < c.length := by omega
      have hltJ : ¬ (c.length : Int) ≤ k := by omega
      have hpl : last ≤ 8 ∧ (0 < k → (c.getD (k - 1) 0).toNat = 48 + last) := by
        by_cases hk0 : k = 0
        · rw [if_pos hk0] at hlast; omega
        · rw [if_neg hk0] at hlast
          have h1 := hch (k - 1) (by omega)
          have h2 := hle (k - 1) (by omega)
          unfold pl at hlast
          omega
      have hcl := (c.getD k 0).toNat_lt
      simp only [↓vsd, vsn, gW, qd, qv, ev, pick, argE, zipE, ne_eq, eq_self, forall_const, implies_true, if_true, if_false, reduceIte, reduceCtorEq, Nat.reduceEqDiff, Nat.reduceAdd, Nat.reduceLT, ↓us_sl2Change, r_sl2Change, hltI, hltJ]
      refine ⟨by omega, inR_i64 (by omega), inR_i64 (by omega), m_call (sl1In_ok _ _ _ _) ?_⟩
      rintro _ w3 hx3 rfl
      by_cases hin : (last : Int) + 1 ≤ ((c.getD k 0).toNat : Int) - 48 ∧ ((c.getD k 0).toNat : Int) - 48 ≤ n
      · have hi1 := hin.1
        have hi2 := hin.2
        have hsub : ((c.getD k 0).toNat : Int) - 48 - (last : Nat) = ((c.getD k 0).toNat - 48 - last : Nat) := by omega
        simp only [↓vsd, vsn, gW, qd, qv, ev, pick, argE, zipE, ne_eq, eq_self, forall_const, implies_true, if_true, if_false, reduceIte, reduceCtorEq, Nat.reduceEqDiff, Nat.reduceAdd, Nat.reduceLT, ↓us_sl2Change, r_sl2Change, hi1, hi2, hsub]
        have hx23 := hx.trans hx3
        refine ⟨inR_i64 (by omega), by decide, fun hev => ⟨hx23, ?_⟩, fun hodd => ⟨inR_i64 (by omega), UpTo.next hlt ⟨(c.getD k 0).toNat - 48, ?_, ?_, hch.succ (by omega) ?_, fun i hi => ?_, hx23⟩⟩⟩
        · have : ¬ IsChange n c := fun hh => by
            rcases hh.2 with h1 | h1
            · exact hnd h1.1
            · have := (h1.2.2.1 k hlt).2
              by_cases hk0 : k = 0
              · subst hk0
                rw [if_pos rfl] at this hlast
                omega
              · rw [if_neg hk0] at this
                have := hpl.2 (by omega)
                omega
          simp only [this, decide_false]
        · rw [show ((c.getD k 0).toNat : Int) - 48 = ((c.getD k 0).toNat - 48 : Nat) by omega]; rfl
        · rw [if_neg (by omega), Nat.add_sub_cancel]; rfl
        · by_cases hk0 : k = 0
          · subst hk0
            rw [if_pos rfl] at hlast ⊢
            omega
          · rw [if_neg hk0]
            have := hpl.2 (by omega)
            omega
        · by_cases he : i = k
          · subst he; omega
          · exact hle i (by omega)
      · simp only [↓vsd, vsn, gW, qd, qv, ev, pick, argE, zipE, ne_eq, eq_self, forall_const, implies_true, if_true, if_false, reduceIte, reduceCtorEq, Nat.reduceEqDiff, Nat.reduceAdd, Nat.reduceLT, ↓us_sl2Change, r_sl2Change, hin]
        have : ¬ IsChange n c := fun hh => by
          rcases hh.2 with h1 | h1
          · exact hnd h1.1
          · obtain ⟨h2, h3⟩ := h1.2.2.1 k hlt
            have h4 := h1.2.2.1.mono k (c.length - 1) (by omega) (by omega)
            have h5 := h1.2.2.2.2
            by_cases hk0 : k = 0
            · subst hk0
              rw [if_pos rfl] at hlast
              omega
            · rw [if_neg hk0] at h3
              have := hpl.2 (by omega)
              omega
        exact fun _ => ⟨hx.trans hx3, by simp only [this, decide_false]⟩
    · obtain rfl : k = c.length := by omega
      have hltI : ¬ (c.length : Int) < c.length := by omega
      simp only [↓vsd, vsn, gW, qd, qv, ev, pick, argE, zipE, ne_eq, eq_self, forall_const, implies_true, if_true, if_false, reduceIte, reduceCtorEq, Nat.reduceEqDiff, Nat.reduceAdd, Nat.reduceLT, ↓us_sl2Change, r_sl2Change, hltI]
      have hpos : 0 < c.length := List.length_pos_iff.2 hgood.1.2
      rw [if_neg (by omega)] at hlast
      have h1 := hch (c.length - 1) (by omega)
      have h2 := hle (c.length - 1) (by omega)
      have hpl : (c.getD (c.length - 1) 0).toNat = 48 + last := by unfold pl at hlast; omega
      rw [show ((n : Int) - (last : Nat)).tmod 2 = ((n : Int) - (last : Nat)) % 2 from Int.tmod_eq_emod_of_nonneg (by omega)]
      refine ⟨inR_i64 (by omega), by decide, hx, ?_⟩
      congr 1
      refine propext ⟨fun h => ⟨hgood.1.1, .inr ⟨hgood.1.2, by omega, hch, by omega, by omega⟩⟩, fun h => ?_⟩
      rcases h.2 with h3 | h3
      · exact absurd h3.1 hnd
      · have := h3.2.2.2.1
        omega
theorem xslices_Index_int_int_ok (v : Value) (l : List Int) (x : Int) (hl : l.length ≤ 1000000000) (w : World) (h : Sq fI 1 w v l) : Fn 123 [v, .int .i64 x] w (fun r _ => ∃ i : Int, r = .int .i64 i ∧ -1 ≤ i ∧ (0 ≤ i ↔ x ∈ l)) := by
  (refine callsV_of mix Try.func123 c_xslices_Index_int_int ?_; simp only [↓vsd, vsn, gW, qd, qv, ev, pick, argE, zipE, ne_eq, eq_self, forall_const, implies_true, if_true, if_false, reduceIte, reduceCtorEq, Nat.reduceEqDiff, Nat.reduceAdd, Nat.reduceLT, ↓us_xslices_Index_int_int, r_xslices_Index_int_int])
  simp only [↓vsd, vsn, gW, qd, qv, ev, pick, argE, zipE, ne_eq, eq_self, forall_const, implies_true, if_true, if_false, reduceIte, reduceCtorEq, Nat.reduceEqDiff, Nat.reduceAdd, Nat.reduceLT, ↓us_xslices_Index_int_int, r_xslices_Index_int_int, h.facts]
  refine m_upto l.length (fun k vs w' => vs = [.int .i64 k] ∧ x ∉ l.take k ∧ Ext w w') ⟨rfl, by simp, Ext.refl _⟩ ?_
  rintro k vs w1 hk ⟨rfl, hno, hx⟩
  have hq := h.ext hx
  by_cases hlt : k < l.length
  · have hltI : (k : Int) < l.length := by omega
    have hltJ : ¬ (l.length : Int) ≤ k := by omega
    simp only [↓vsd, vsn, gW, qd, qv, ev, pick, argE, zipE, ne_eq, eq_self, forall_const, implies_true, if_true, if_false, reduceIte, reduceCtorEq, Nat.reduceEqDiff, Nat.reduceAdd, Nat.reduceLT, ↓us_xslices_Index_int_int, r_xslices_Index_int_int, hltI, hltJ, hq.facts, hq.at1 0 hlt]
    refine ⟨by omega, fun he => ⟨hx, k, rfl, by omega, ⟨fun _ => by rw [he]; exact getD_mem 0 hlt, fun _ => by omega⟩⟩, fun hne => ⟨inR_i64 (by omega), UpTo.next hlt ⟨rfl, fun hm => ?_, hx⟩⟩⟩
    rcases mem_take (d := 0) hlt hm with h1 | h1
    · exact hno h1
    · exact hne h1
  · obtain rfl : k = l.length := by omega
    have hltI : ¬ (l.length : Int) < l.length := by omega
    simp only [↓vsd, vsn, gW, qd, qv, ev, pick, argE, zipE, ne_eq, eq_self, forall_const, implies_true, if_true, if_false, reduceIte, reduceCtorEq, Nat.reduceEqDiff, Nat.reduceAdd, Nat.reduceLT, ↓us_xslices_Index_int_int, r_xslices_Index_int_int, hltI]
    rw [List.take_length] at hno
    exact ⟨hx, -1, rfl, by omega, by simp [hno]⟩
theorem xslices_Contains_int_int_ok (v : Value) (l : List Int) (x : Int) (hl : l.length ≤ 1000000000) (w : World) (h : Sq fI 1 w v l) : Fn 122 [v, .int .i64 x] w (fun r _ => r = .bool (decide (x ∈ l))) := by
  (refine callsV_of mix Try.func122 c_xslices_Contains_int_int ?_; simp only [↓vsd, vsn, gW, qd, qv, ev, pick, argE, zipE, ne_eq, eq_self, forall_const, implies_true, if_true, if_false, reduceIte, reduceCtorEq, Nat.reduceEqDiff, Nat.reduceAdd, Nat.reduceLT, ↓us_xslices_Contains_int_int, r_xslices_Contains_int_int])
  refine m_call (xslices_Index_int_int_ok v l x hl _ h) ?_
  rintro _ w1 hx1 ⟨i, rfl, hi, hm⟩
  simp only [↓vsd, vsn, gW, qd, qv, ev, pick, argE, zipE, ne_eq, eq_self, forall_const, implies_true, if_true, if_false, reduceIte, reduceCtorEq, Nat.reduceEqDiff, Nat.reduceAdd, Nat.reduceLT, ↓us_xslices_Contains_int_int, r_xslices_Contains_int_int]
  exact ⟨hx1, by simp only [hm]⟩
theorem times_set {a b : List UInt8} {k : Nat} (h : k < b.length) : ((timesL a b).take k ++ List.replicate (b.length - k) 0).set k (a.getD (bell b k) 0) = (timesL a b).take (k + 1) ++ List.replicate (b.length - (k + 1)) 0 := by
  have := fill_set (timesL a b) 0 k (by rw [timesL_len]; exact h)
  rw [timesL_len, timesL_get a b k h] at this
  exact this
theorem itimes_ok (a b : List UInt8) (hb : IsRow b) (hab : a.length = b.length) (w : World) : Fn 90 [S a, S b] w (fun r _ => r = S (timesL a b)) := by
  (refine callsV_of mix Try.func90 c_itimes ?_; simp only [↓vsd, vsn, gW, qd, qv, ev, pick, argE, zipE, ne_eq, eq_self, forall_const, implies_true, if_true, if_false, reduceIte, reduceCtorEq, Nat.reduceEqDiff, Nat.reduceAdd, Nat.reduceLT, ↓us_itimes, r_itimes])
  have h8 := hb.1
  refine m_msl (f := fU) (B := w.heap.size) (0 : UInt8) fU_len rfl (by omega) (by decide) (Nat.le_refl _) ?_
  rintro vo w1 ho1 _ hx1
  simp only [↓vsd, vsn, gW, qd, qv, ev, pick, argE, zipE, ne_eq, eq_self, forall_const, implies_true, if_true, if_false, reduceIte, reduceCtorEq, Nat.reduceEqDiff, Nat.reduceAdd, Nat.reduceLT, ↓us_itimes, r_itimes, ho1.sq.facts]
  rw [List.length_replicate]
  refine m_upto b.length (fun k vs w' => vs = [.int .i64 k] ∧ Own fU 1 5 w.heap.size w' vo ((timesL a b).take k ++ List.replicate (b.length - k) 0) ∧ Ext w w') ⟨rfl, by simpa using ho1, hx1⟩ ?_
  rintro k vs w2 hk ⟨rfl, ho, hx⟩
  by_cases hlt : k < b.length
  · have hltI : (k : Int) < b.length := by omega
    have hltJ : ¬ (b.length : Int) ≤ k := by omega
    have hlen : ((timesL a b).take k ++ List.replicate (b.length - k) 0).length = b.length := by simp [timesL_len]; omega
    have hlow := hb.low hlt
    have hhigh := hb.high hlt
    have hbe : ((b.getD k 0).toNat : Int) - 49 = (bell b k : Nat) := by unfold bell; omega
    have hbl := hb.bell_lt hlt
    simp only [↓vsd, vsn, gW, qd, qv, ev, pick, argE, zipE, ne_eq, eq_self, forall_const, implies_true, if_true, if_false, reduceIte, reduceCtorEq, Nat.reduceEqDiff, Nat.reduceAdd, Nat.reduceLT, ↓us_itimes, r_itimes, hltI, hltJ, ho.sq.facts, hlen, hbe]
    refine ⟨by omega, inR_u8 (by omega), by omega, by omega, m_set1 k (a.getD (bell b k) 0) ho rfl (by omega) rfl fU_one ?_⟩
    rintro w3 ho3 hg3 hs3
    simp only [↓vsd, vsn, gW, qd, qv, ev, pick, argE, zipE, ne_eq, eq_self, forall_const, implies_true, if_true, if_false, reduceIte, reduceCtorEq, Nat.reduceEqDiff, Nat.reduceAdd, Nat.reduceLT, ↓us_itimes, r_itimes]
    exact ⟨inR_i64 (by omega), UpTo.next hlt ⟨rfl, ho3.to (times_set hlt), ho.grown hx (Nat.le_refl _) hg3⟩⟩
  · obtain rfl : k = b.length := by omega
    have hltI : ¬ (b.length : Int) < b.length := by omega
    simp only [↓vsd, vsn, gW, qd, qv, ev, pick, argE, zipE, ne_eq, eq_self, forall_const, implies_true, if_true, if_false, reduceIte, reduceCtorEq, Nat.reduceEqDiff, Nat.reduceAdd, Nat.reduceLT, ↓us_itimes, r_itimes, hltI]
    refine m_b2s ho.sq ?_
    simp only [↓vsd, vsn, gW, qd, qv, ev, pick, argE, zipE, ne_eq, eq_self, forall_const, implies_true, if_true, if_false, reduceIte, reduceCtorEq, Nat.reduceEqDiff, Nat.reduceAdd, Nat.reduceLT, ↓us_itimes, r_itimes]
    exact ⟨hx, by simp [timesL_len, List.take_of_length_le]⟩
theorem sl1At_ok (r : List UInt8) (p : Nat) (hp : 1 ≤ p ∧ p ≤ r.length) (hr : 48 ≤ (r.getD (p - 1) 0).toNat) (hl : r.length ≤ 1048576) (w : World) : Fn 115 [S r, .int .i64 p] w (fun v _ => v = .int .i64 (((r.getD (p - 1) 0).toNat : Int) - 48)) := by
  (refine callsV_of mix Try.func115 c_sl1At ?_; simp only [↓vsd, vsn, gW, qd, qv, ev, pick, argE, zipE, ne_eq, eq_self, forall_const, implies_true, if_true, if_false, reduceIte, reduceCtorEq, Nat.reduceEqDiff, Nat.reduceAdd, Nat.reduceLT, ↓us_sl1At, r_sl1At])
  have := (r.getD (p - 1) 0).toNat_lt
  exact ⟨inR_i64 (by omega), by omega, inR_u8 (by omega), inR_i64 (by omega), Ext.refl _⟩
theorem sl1Times_ok (a b : List UInt8) (hb : IsRow b) (hab : a.length = b.length) (w : World) : Fn 106 [S a, S b] w (fun r _ => r = S (timesL a b)) := by
  (refine callsV_of mix Try.func106 c_sl1Times ?_; simp only [↓vsd, vsn, gW, qd, qv, ev, pick, argE, zipE, ne_eq, eq_self, forall_const, implies_true, if_true, if_false, reduceIte, reduceCtorEq, Nat.reduceEqDiff, Nat.reduceAdd, Nat.reduceLT, ↓us_sl1Times, r_sl1Times])
  have h8 := hb.1
  refine m_upto b.length (fun k vs w' => vs = [S ((timesL a b).take k), .int .i64 (k + 1 : Nat)] ∧ Ext w w') ⟨rfl, Ext.refl _⟩ ?_
  rintro k vs w2 hk ⟨rfl, hx⟩
  simp only [↓vsd, vsn, gW, qd, qv, ev, pick, argE, zipE, ne_eq, eq_self, forall_const, implies_true, if_true, if_false, reduceIte, reduceCtorEq, Nat.reduceEqDiff, Nat.reduceAdd, Nat.reduceLT, ↓us_sl1Times, r_sl1Times]
  refine ⟨fun hle => m_call (sl1At_ok b (k + 1) (by omega) (by have := hb.low (show k + 1 - 1 < b.length by omega); omega) (by omega) _) ?_, fun hgt => ⟨hx, ?_⟩⟩
  · rintro _ w3 hx3 rfl
    rw [Nat.add_sub_cancel]
    have hlt : k < b.length := by omega
    have hlow := hb.low hlt
    have hhigh := hb.high hlt
    have hbe : ((b.getD k 0).toNat : Int) - 48 = (bell b k + 1 : Nat) := by unfold bell; omega
    have hbl := hb.bell_lt hlt
    rw [hbe]
    simp only [↓vsd, vsn, gW, qd, qv, ev, pick, argE, zipE, ne_eq, eq_self, forall_const, implies_true, if_true, if_false, reduceIte, reduceCtorEq, Nat.reduceEqDiff, Nat.reduceAdd, Nat.reduceLT, ↓us_sl1Times, r_sl1Times]
    rw [Nat.add_sub_cancel, sub_one a (bell b k) (by omega)]
    refine ⟨inR_i64 (by omega), by omega, by simp; omega, inR_i64 (by omega), UpTo.next hlt ⟨?_, hx.trans hx3⟩⟩
    rw [List.take_add_one, List.getElem?_eq_getElem (by rw [timesL_len]; exact hlt), ← timesL_get a b k hlt, List.getD_eq_getElem?_getD, List.getElem?_eq_getElem (by rw [timesL_len]; exact hlt)]
    rfl
  · rw [List.take_of_length_le (by rw [timesL_len]; omega)]
theorem sl2Stays_ok (c : List UInt8) (p : Nat) (hc : c.length ≤ 1048576) (hp : p ≤ 1048576) (w : World) : Fn 119 [S c, .int .i64 p] w (fun r _ => r = .bool (stays c p)) := by
  (refine callsV_of mix Try.func119 c_sl2Stays ?_; simp only [↓vsd, vsn, gW, qd, qv, ev, pick, argE, zipE, ne_eq, eq_self, forall_const, implies_true, if_true, if_false, reduceIte, reduceCtorEq, Nat.reduceEqDiff, Nat.reduceAdd, Nat.reduceLT, ↓us_sl2Stays, r_sl2Stays])
  refine m_upto c.length (fun k vs w' => vs = [.int .i64 k] ∧ stays (c.take k) p = false ∧ Ext w w') ⟨rfl, by simp [stays], Ext.refl _⟩ ?_
  rintro k vs w2 hk ⟨rfl, hno, hx⟩
  have hcl := (c.getD k 0).toNat_lt
  simp only [↓vsd, vsn, gW, qd, qv, ev, pick, argE, zipE, ne_eq, eq_self, forall_const, implies_true, if_true, if_false, reduceIte, reduceCtorEq, Nat.reduceEqDiff, Nat.reduceAdd, Nat.reduceLT, ↓us_sl2Stays, r_sl2Stays]
  refine ⟨fun hlt => ⟨by omega, inR_i64 (by omega), fun he => ⟨hx, ?_⟩, fun hne => ⟨inR_i64 (by omega), UpTo.next (by omega) ⟨rfl, ?_, hx⟩⟩⟩, fun hge => ⟨hx, ?_⟩⟩
  · congr 1
    symm
    refine List.any_eq_true.2 ⟨c.getD k 0, getD_mem 0 (by omega), ?_⟩
    rw [beq_iff_eq]; omega
  · rw [Bool.eq_false_iff] at hno ⊢
    intro h
    obtain ⟨b, hb, he⟩ := List.any_eq_true.1 h
    rcases mem_take (d := 0) (by omega) hb with h1 | h1
    · exact hno (List.any_eq_true.2 ⟨b, h1, he⟩)
    · subst h1
      rw [beq_iff_eq] at he
      omega
  · rw [List.take_of_length_le (by omega)] at hno
    rw [hno]
theorem IsChange.dig {n : Int} {c : List UInt8} (h : IsChange n c) : c = [45] ∨ DigUp c c.length := by
  rcases h.2 with h1 | ⟨h1, h2, h3, h4, h5⟩
  · exact .inl h1.1
  · refine .inr fun i hi => ?_
    have := h3.mono i (c.length - 1) (by omega) (by omega)
    have := (h3 i hi).1
    have := h.1
    omega
theorem iGoodChange_ok (n : Int) (c : List UInt8) (hc : c.length ≤ 1048576) (w : World) : Fn 17 [.int .i64 n, S c] w (fun v _ => v = .bool (decide (IsChange n c))) := by
  (refine callsV_of mix Try.func17 c_iGoodChange ?_; simp only [↓vsd, vsn, gW, qd, qv, ev, pick, argE, zipE, ne_eq, eq_self, forall_const, implies_true, if_true, if_false, reduceIte, reduceCtorEq, Nat.reduceEqDiff, Nat.reduceAdd, Nat.reduceLT, ↓us_iGoodChange, r_iGoodChange])
  refine m_call (iisStage_ok _ _) ?_
  rintro _ w1 hx1 rfl
  simp only [↓vsd, vsn, gW, qd, qv, ev, pick, argE, zipE, ne_eq, eq_self, forall_const, implies_true, if_true, if_false, reduceIte, reduceCtorEq, Nat.reduceEqDiff, Nat.reduceAdd, Nat.reduceLT, ↓us_iGoodChange, r_iGoodChange]
  refine ⟨fun hbad => ⟨hx1, ?_⟩, fun hgood => ⟨fun hdash => ⟨by decide, hx1, ?_⟩, fun hnd => m_call (iplaces_ok c hc _) ?_⟩⟩
  · have : ¬ IsChange n c := fun h => by have := h.1; omega
    simp only [this, decide_false]
  · subst hdash
    rw [show n.tmod 2 = n % 2 from Int.tmod_eq_emod_of_nonneg (by omega)]
    congr 1
    refine propext ⟨fun h => ⟨hgood, .inl ⟨rfl, h⟩⟩, fun h => ?_⟩
    rcases h.2 with h | h
    · exact h.2
    · exact absurd (h.2.2.1 0 (by decide)).1 (by decide)
  · rintro _ w2 hx2 ⟨x, rfl, hox⟩
    simp only [↓vsd, vsn, gW, qd, qv, ev, pick, argE, zipE, ne_eq, eq_self, forall_const, implies_true, if_true, if_false, reduceIte, reduceCtorEq, Nat.reduceEqDiff, Nat.reduceAdd, Nat.reduceLT, ↓us_iGoodChange, r_iGoodChange]
    refine ⟨fun hd => ?_, fun hd => ⟨hx1.trans hx2, ?_⟩⟩
    · obtain ⟨n, rfl⟩ : ∃ k : Nat, n = k := ⟨n.toNat, by omega⟩
      refine m_call (iarePlaces_ok n c x (by omega) hc hd _ (hox hd).sq) ?_
      rintro _ w3 hx3 rfl
      simp only [↓vsd, vsn, gW, qd, qv, ev, pick, argE, zipE, ne_eq, eq_self, forall_const, implies_true, if_true, if_false, reduceIte, reduceCtorEq, Nat.reduceEqDiff, Nat.reduceAdd, Nat.reduceLT, ↓us_iGoodChange, r_iGoodChange]
      exact ⟨(hx1.trans hx2).trans hx3, by simp only [hd, decide_true, Bool.true_and]⟩
    · have : ¬ IsChange n c := fun h => by
        rcases h.dig with h1 | h1
        · exact hnd h1
        · exact hd h1
      simp only [this, decide_false]
theorem iplacesOf_ok (c : List UInt8) (hc : c.length ≤ 1048576) (hd : c = [45] ∨ DigUp c c.length) (w : World) : Fn 121 [S c] w (fun v w' => ∃ L, Own fI 1 3 w.heap.size w' v L ∧ L.length ≤ 1048576 ∧ ∀ p : Nat, ((p : Int) ∈ L ↔ stays c p = true)) := by
  (refine callsV_of mix Try.func121 c_iplacesOf ?_; simp only [↓vsd, vsn, gW, qd, qv, ev, pick, argE, zipE, ne_eq, eq_self, forall_const, implies_true, if_true, if_false, reduceIte, reduceCtorEq, Nat.reduceEqDiff, Nat.reduceAdd, Nat.reduceLT, ↓us_iplacesOf, r_iplacesOf])
  refine ⟨fun he => m_bsl (fun _ h => by cases h) ?_, fun hne => m_call (iplaces_ok c hc _) ?_⟩
  · rintro b w1 hb hblk hx1 hs1
    simp only [↓vsd, vsn, gW, qd, qv, ev, pick, argE, zipE, ne_eq, eq_self, forall_const, implies_true, if_true, if_false, reduceIte, reduceCtorEq, Nat.reduceEqDiff, Nat.reduceAdd, Nat.reduceLT, ↓us_iplacesOf, r_iplacesOf]
    exact ⟨hx1, [], Own.empty fI_len hblk (by omega), by decide, fun p => by rw [he, stays_dash]; simp⟩
  · rintro _ w1 hx1 ⟨x, rfl, hox⟩
    simp only [↓vsd, vsn, gW, qd, qv, ev, pick, argE, zipE, ne_eq, eq_self, forall_const, implies_true, if_true, if_false, reduceIte, reduceCtorEq, Nat.reduceEqDiff, Nat.reduceAdd, Nat.reduceLT, ↓us_iplacesOf, r_iplacesOf]
    have hd := hd.resolve_left hne
    exact ⟨hx1, plsL c, hox hd, by rw [plsL_len]; exact hc, fun p => (stays_mem c p).symm⟩
theorem iswapsOf_ok (n : Nat) (c : List UInt8) (hn : n ≤ 8) (hc : c.length ≤ 1048576) (hd : c = [45] ∨ DigUp c c.length) (w : World) : Fn 120 [.int .i64 n, S c] w (fun v w' => Own fI 1 3 w.heap.size w' v (List.map (fun p : Nat => (p : Int)) (swapsL c n 1))) := by
  (refine callsV_of mix Try.func120 c_iswapsOf ?_; simp only [↓vsd, vsn, gW, qd, qv, ev, pick, argE, zipE, ne_eq, eq_self, forall_const, implies_true, if_true, if_false, reduceIte, reduceCtorEq, Nat.reduceEqDiff, Nat.reduceAdd, Nat.reduceLT, ↓us_iswapsOf, r_iswapsOf])
  refine m_call (iplacesOf_ok c hc hd _) ?_
  rintro vs w1 hx1 ⟨L, ho1, hL, hmem⟩
  simp only [↓vsd, vsn, gW, qd, qv, ev, pick, argE, zipE, ne_eq, eq_self, forall_const, implies_true, if_true, if_false, reduceIte, reduceCtorEq, Nat.reduceEqDiff, Nat.reduceAdd, Nat.reduceLT, ↓us_iswapsOf, r_iswapsOf]
  refine m_bsl (fun _ h => by cases h) ?_
  rintro b w2 hb hblk hx2 hs2
  simp only [↓vsd, vsn, gW, qd, qv, ev, pick, argE, zipE, ne_eq, eq_self, forall_const, implies_true, if_true, if_false, reduceIte, reduceCtorEq, Nat.reduceEqDiff, Nat.reduceAdd, Nat.reduceLT, ↓us_iswapsOf, r_iswapsOf]
  have hx12 := hx1.trans hx2
  refine m_loop (fun m us w' => ∃ (x : Value) (p : Nat) (D : List Nat), m = n + 1 - p ∧ 1 ≤ p ∧ p ≤ n + 1 ∧ us = [x, .int .i64 p] ∧ D.length ≤ p ∧ D ++ swapsL c n p = swapsL c n 1 ∧ Own fI 1 3 w.heap.size w' x (List.map (fun p : Nat => (p : Int)) D) ∧ Own fI 1 3 w.heap.size w' vs L ∧ Apart x vs ∧ Ext w w') n ⟨_, 1, [], rfl, by omega, by omega, rfl, by simp, rfl, Own.empty fI_len hblk (by have := hx1.size; omega), ho1.ext hx2, Apart.of_lt ho1 (fun c hc => by simp only [Value.ownBlock, Option.some.injEq] at hc; omega), hx12⟩ ?_
  rintro m us w3 ⟨x, p, D, rfl, hp1, hpn, rfl, hD, hsw, ho, hoL, hap, hx⟩
  by_cases hlt : p < n
  · have hltI : (p : Int) < n := by omega
    have hltJ : ¬ (n : Int) ≤ p := by omega
    simp only [↓vsd, vsn, gW, qd, qv, ev, pick, argE, zipE, ne_eq, eq_self, forall_const, implies_true, if_true, if_false, reduceIte, reduceCtorEq, Nat.reduceEqDiff, Nat.reduceAdd, Nat.reduceLT, ↓us_iswapsOf, r_iswapsOf, hltI, hltJ]
    refine m_call (xslices_Contains_int_int_ok vs L p (by omega) _ hoL.sq) ?_
    rintro _ w4 hx4 rfl
    simp only [↓vsd, vsn, gW, qd, qv, ev, pick, argE, zipE, ne_eq, eq_self, forall_const, implies_true, if_true, if_false, reduceIte, reduceCtorEq, Nat.reduceEqDiff, Nat.reduceAdd, Nat.reduceLT, ↓us_iswapsOf, r_iswapsOf]
    refine ⟨fun hnm => m_bsl (one_el rfl) ?_, fun hm => ⟨inR_i64 (by omega), n + 1 - (p + 1), by omega, x, p + 1, D, rfl, by omega, by omega, ⟨rfl, rfl⟩, by omega, ?_, ho.ext hx4, hoL.ext hx4, hap, hx.trans hx4⟩⟩
    · rintro b5 w5 hb5 hblk5 hx5 hs5
      simp only [↓vsd, vsn, gW, qd, qv, ev, pick, argE, zipE, ne_eq, eq_self, forall_const, implies_true, if_true, if_false, reduceIte, reduceCtorEq, Nat.reduceEqDiff, Nat.reduceAdd, Nat.reduceLT, ↓us_iswapsOf, r_iswapsOf]
      have hx35 := hx4.trans hx5
      refine m_app2 (ho.ext hx35) (Sq.one fI_len hblk5 rfl) fI_one (by decide) (by simp; omega) (by decide) ((hx.trans hx35).size) ?_
      rintro x6 w6 ho6 hg6 hn6
      simp only [↓vsd, vsn, gW, qd, qv, ev, pick, argE, zipE, ne_eq, eq_self, forall_const, implies_true, if_true, if_false, reduceIte, reduceCtorEq, Nat.reduceEqDiff, Nat.reduceAdd, Nat.reduceLT, ↓us_iswapsOf, r_iswapsOf]
      have hx6 := (ho.ext hx35).grown (hx.trans hx35) (Nat.le_refl _) hg6
      refine ⟨inR_i64 (by omega), inR_i64 (by omega), n + 1 - (p + 2), by omega, x6, p + 2, D ++ [p], rfl, by omega, by omega, ⟨rfl, rfl⟩, by simp; omega, ?_, ho6.to (by simp), (hoL.ext hx35).keep2 hg6 hap, hap.next (hoL.ext hx35) hn6, hx6⟩
      rw [← hsw, swapsL_swap hlt (by
        rw [Bool.eq_false_iff]
        exact fun h => hnm ((hmem p).2 h)), List.append_assoc]
      rfl
    · rw [← hsw, swapsL_stay hlt ((hmem p).1 hm)]
  · have hltI : ¬ (p : Int) < n := by omega
    simp only [↓vsd, vsn, gW, qd, qv, ev, pick, argE, zipE, ne_eq, eq_self, forall_const, implies_true, if_true, if_false, reduceIte, reduceCtorEq, Nat.reduceEqDiff, Nat.reduceAdd, Nat.reduceLT, ↓us_iswapsOf, r_iswapsOf, hltI]
    exact ⟨hx, ho.to (by rw [← hsw, swapsL_end (by omega), List.append_nil])⟩
theorem swapsL_length (c : List UInt8) (n : Nat) : ∀ (m p : Nat), n - p ≤ m → (swapsL c n p).length ≤ m := by
  intro m
  induction m with
  | zero => intro p hp; rw [swapsL_end (by omega)]; exact Nat.le_refl _
  | succ m ih =>
    intro p hp
    by_cases h : p < n
    · by_cases hs : stays c p = true
      · rw [swapsL_stay h hs]
        have := ih (p + 1) (by omega)
        omega
      · rw [swapsL_swap h (by simpa using hs)]
        have := ih (p + 2) (by omega)
        simp only [List.length_cons]
        omega
    · rw [swapsL_end (by omega)]; exact Nat.zero_le _
theorem swapAll_take (l : List UInt8) (ps : List Nat) : swapAll l (ps.take ps.length) = swapAll l ps := by rw [List.take_length]
theorem ichangeRow_ok (n : Nat) (c : List UInt8) (hn : 3 ≤ n ∧ n ≤ 8) (hc : c.length ≤ 1048576) (hd : c = [45] ∨ DigUp c c.length) (w : World) : Fn 118 [.int .i64 n, S c] w (fun v _ => v = S (chgL n c)) := by
  (refine callsV_of mix Try.func118 c_ichangeRow ?_; simp only [↓vsd, vsn, gW, qd, qv, ev, pick, argE, zipE, ne_eq, eq_self, forall_const, implies_true, if_true, if_false, reduceIte, reduceCtorEq, Nat.reduceEqDiff, Nat.reduceAdd, Nat.reduceLT, ↓us_ichangeRow, r_ichangeRow])
  refine m_call (irounds_ok n (by omega) _) ?_
  rintro _ w1 hx1 rfl
  simp only [↓vsd, vsn, gW, qd, qv, ev, pick, argE, zipE, ne_eq, eq_self, forall_const, implies_true, if_true, if_false, reduceIte, reduceCtorEq, Nat.reduceEqDiff, Nat.reduceAdd, Nat.reduceLT, ↓us_ichangeRow, r_ichangeRow]
  refine m_s2bU w.heap.size (by rw [roundsL_len]; omega) hx1.size ?_
  rintro v2 w2 ho2 hx2 _
  simp only [↓vsd, vsn, gW, qd, qv, ev, pick, argE, zipE, ne_eq, eq_self, forall_const, implies_true, if_true, if_false, reduceIte, reduceCtorEq, Nat.reduceEqDiff, Nat.reduceAdd, Nat.reduceLT, ↓us_ichangeRow, r_ichangeRow]
  refine m_call (iswapsOf_ok n c (by omega) hc hd _) ?_
  rintro v3 w3 hx3 ho3
  have hx13 := (hx1.trans hx2).trans hx3
  have hmem := swapsL_mem c n n 1 (by omega)
  have hsl := swapsL_length c n n 1 (by omega)
  generalize hps : swapsL c n 1 = ps at *
  simp only [↓vsd, vsn, gW, qd, qv, ev, pick, argE, zipE, ne_eq, eq_self, forall_const, implies_true, if_true, if_false, reduceIte, reduceCtorEq, Nat.reduceEqDiff, Nat.reduceAdd, Nat.reduceLT, ↓us_ichangeRow, r_ichangeRow, ho3.sq.facts, List.length_map]
  have hap : Apart v2 v3 := Apart.symm (Apart.of_lt ho2 fun b hb => (ho3.bound b hb).1)
  refine m_upto ps.length (fun k vs w' => vs = [.int .i64 k] ∧ Own fU 1 5 w.heap.size w' v2 (swapAll (roundsL n) (ps.take k)) ∧ Own fI 1 3 w2.heap.size w' v3 (List.map (fun p : Nat => (p : Int)) ps) ∧ Ext w w') ⟨rfl, (ho2.ext hx3).to rfl, ho3, hx13⟩ ?_
  rintro k vs w4 hk ⟨rfl, ho4, hos4, hx4⟩
  have hlen : (swapAll (roundsL n) (ps.take k)).length = n := by rw [swapAll_len, roundsL_len]
  by_cases hlt : k < ps.length
  · have hltI : (k : Int) < ps.length := by omega
    have hltJ : ¬ (ps.length : Int) ≤ k := by omega
    have hp := hmem _ (getD_mem 0 hlt)
    obtain ⟨p, hpe⟩ : ∃ p, ps.getD k 0 = p + 1 := ⟨ps.getD k 0 - 1, by omega⟩
    have hlm : k < (List.map (fun p : Nat => (p : Int)) ps).length := by simpa using hlt
    have hge : (List.map (fun p : Nat => (p : Int)) ps).getD k 0 = ((p + 1 : Nat) : Int) := by rw [getD_map _ 0 _ _ _ hlt, hpe]
    have hp1 : ((p + 1 : Nat) : Int) - 1 = (p : Nat) := by omega
    have hpA : p < (swapAll (roundsL n) (ps.take k)).length := by omega
    have hpB : p + 1 < (swapAll (roundsL n) (ps.take k)).length := by omega
    have hs := swapAll_snoc (roundsL n) ps k hlt
    rw [hpe, Nat.add_sub_cancel] at hs
    simp only [↓vsd, vsn, gW, qd, qv, ev, pick, argE, zipE, ne_eq, eq_self, forall_const, implies_true, if_true, if_false, reduceIte, reduceCtorEq, Nat.reduceEqDiff, Nat.reduceAdd, Nat.reduceLT, ↓us_ichangeRow, r_ichangeRow, hltI, hltJ, hos4.sq.facts, hos4.sq.at1 0 hlm, hge, hp1, ho4.sq.facts, ho4.sq.at1 0 hpA, ho4.sq.at1 0 hpB, hlen, List.length_map]
    have hxd : Ext w4 w4.drew := dr (Ext.refl _)
    refine ⟨by omega, inR_i64 (by omega), by omega, inR_i64 (by omega), by omega, by omega, m_set1 p ((swapAll (roundsL n) (ps.take k)).getD (p + 1) 0) (ho4.ext hxd) rfl (by omega) rfl fU_one ?_⟩
    rintro w5 ho5 hg5 hs5
    have hl5 : ((swapAll (roundsL n) (ps.take k)).set p ((swapAll (roundsL n) (ps.take k)).getD (p + 1) 0)).length = n := by rw [List.length_set]; exact hlen
    simp only [↓vsd, vsn, gW, qd, qv, ev, pick, argE, zipE, ne_eq, eq_self, forall_const, implies_true, if_true, if_false, reduceIte, reduceCtorEq, Nat.reduceEqDiff, Nat.reduceAdd, Nat.reduceLT, ↓us_ichangeRow, r_ichangeRow, ho5.sq.facts, hl5]
    refine ⟨by omega, m_set1 (p + 1) ((swapAll (roundsL n) (ps.take k)).getD p 0) ho5 rfl (by rw [List.length_set]; omega) rfl fU_one ?_⟩
    rintro w6 ho6 hg6 hs6
    simp only [↓vsd, vsn, gW, qd, qv, ev, pick, argE, zipE, ne_eq, eq_self, forall_const, implies_true, if_true, if_false, reduceIte, reduceCtorEq, Nat.reduceEqDiff, Nat.reduceAdd, Nat.reduceLT, ↓us_ichangeRow, r_ichangeRow]
    have hg := grown_trans hg5 hg6
    have hos6 := (hos4.ext hxd).keep hg (fun b hb => (ho2.lt b hb))
    exact ⟨inR_i64 (by omega), UpTo.next hlt ⟨rfl, ho6.to (by rw [hs]; rfl), hos6, (ho4.ext hxd).grown (hx4.trans hxd) (Nat.le_refl _) hg⟩⟩
  · obtain rfl : k = ps.length := by omega
    have hltI : ¬ (ps.length : Int) < ps.length := by omega
    simp only [↓vsd, vsn, gW, qd, qv, ev, pick, argE, zipE, ne_eq, eq_self, forall_const, implies_true, if_true, if_false, reduceIte, reduceCtorEq, Nat.reduceEqDiff, Nat.reduceAdd, Nat.reduceLT, ↓us_ichangeRow, r_ichangeRow, hltI]
    refine m_b2s ho4.sq ?_
    simp only [↓vsd, vsn, gW, qd, qv, ev, pick, argE, zipE, ne_eq, eq_self, forall_const, implies_true, if_true, if_false, reduceIte, reduceCtorEq, Nat.reduceEqDiff, Nat.reduceAdd, Nat.reduceLT, ↓us_ichangeRow, r_ichangeRow]
    exact ⟨hx4, by rw [swapAll_take, ← hps]; rfl⟩
theorem sl2Row_ok (n : Nat) (c : List UInt8) (hn : 3 ≤ n ∧ n ≤ 8) (hc : c.length ≤ 1048576) (w : World) : Fn 117 [.int .i64 n, S c] w (fun v _ => v = S (chgL n c)) := by
  (refine callsV_of mix Try.func117 c_sl2Row ?_; simp only [↓vsd, vsn, gW, qd, qv, ev, pick, argE, zipE, ne_eq, eq_self, forall_const, implies_true, if_true, if_false, reduceIte, reduceCtorEq, Nat.reduceEqDiff, Nat.reduceAdd, Nat.reduceLT, ↓us_sl2Row, r_sl2Row])
  refine m_call (sl1Rounds_ok n (by omega) _) ?_
  rintro _ w1 hx1 rfl
  simp only [↓vsd, vsn, gW, qd, qv, ev, pick, argE, zipE, ne_eq, eq_self, forall_const, implies_true, if_true, if_false, reduceIte, reduceCtorEq, Nat.reduceEqDiff, Nat.reduceAdd, Nat.reduceLT, ↓us_sl2Row, r_sl2Row]
  refine m_s2bU w.heap.size (by rw [roundsL_len]; omega) hx1.size ?_
  rintro v2 w2 ho2 hx2 _
  simp only [↓vsd, vsn, gW, qd, qv, ev, pick, argE, zipE, ne_eq, eq_self, forall_const, implies_true, if_true, if_false, reduceIte, reduceCtorEq, Nat.reduceEqDiff, Nat.reduceAdd, Nat.reduceLT, ↓us_sl2Row, r_sl2Row]
  refine m_loop (fun m us w' => ∃ (p : Nat) (l : List UInt8), m = n + 1 - p ∧ 1 ≤ p ∧ p ≤ n + 1 ∧ us = [.int .i64 p] ∧ l.length = n ∧ (∀ j, p ≤ j + 1 → j < n → l.getD j 0 = UInt8.ofNat (49 + j)) ∧ swapAll l (swapsL c n p) = chgL n c ∧ Own fU 1 5 w.heap.size w' v2 l ∧ Ext w w') n ⟨1, roundsL n, rfl, by omega, by omega, rfl, roundsL_len n, fun j _ hj => roundsL_get n j hj, rfl, ho2, hx1.trans hx2⟩ ?_
  rintro m us w3 ⟨p, l, rfl, hp1, hpn, rfl, hl, hget, hsw, ho, hx⟩
  by_cases hlt : p < n
  · have hltI : (p : Int) < n := by omega
    have hltJ : ¬ (n : Int) ≤ p := by omega
    simp only [↓vsd, vsn, gW, qd, qv, ev, pick, argE, zipE, ne_eq, eq_self, forall_const, implies_true, if_true, if_false, reduceIte, reduceCtorEq, Nat.reduceEqDiff, Nat.reduceAdd, Nat.reduceLT, ↓us_sl2Row, r_sl2Row, hltI, hltJ]
    refine m_call (sl2Stays_ok c p hc (by omega) _) ?_
    rintro _ w4 hx4 rfl
    obtain ⟨q, rfl⟩ : ∃ q, p = q + 1 := ⟨p - 1, by omega⟩
    have hq1 : ((q + 1 : Nat) : Int) - 1 = (q : Nat) := by omega
    have hoA := ho.ext hx4
    simp only [↓vsd, vsn, gW, qd, qv, ev, pick, argE, zipE, ne_eq, eq_self, forall_const, implies_true, if_true, if_false, reduceIte, reduceCtorEq, Nat.reduceEqDiff, Nat.reduceAdd, Nat.reduceLT, ↓us_sl2Row, r_sl2Row, hq1, hoA.sq.facts, hl]
    have hgq := hget q (by omega) (by omega)
    have hgq1 := hget (q + 1) (by omega) (by omega)
    refine ⟨fun hst => ⟨inR_i64 (by omega), inR_i64 (by omega), inR_u8 (by omega), by omega, m_set1 q (UInt8.ofNat (49 + (q + 1))) hoA rfl (by omega) (by simp [fU, UInt8.toNat_ofNat', cells_int]; omega) fU_one ?_⟩, fun hst => ⟨inR_i64 (by omega), n + 1 - (q + 1 + 1), by omega, q + 1 + 1, l, rfl, by omega, by omega, rfl, hl, fun j hj hjn => hget j (by omega) hjn, ?_, hoA, hx.trans hx4⟩⟩
    · rintro w5 ho5 hg5 hs5
      have hl5 : (l.set q (UInt8.ofNat (49 + (q + 1)))).length = n := by rw [List.length_set]; exact hl
      simp only [↓vsd, vsn, gW, qd, qv, ev, pick, argE, zipE, ne_eq, eq_self, forall_const, implies_true, if_true, if_false, reduceIte, reduceCtorEq, Nat.reduceEqDiff, Nat.reduceAdd, Nat.reduceLT, ↓us_sl2Row, r_sl2Row, ho5.sq.facts, hl5]
      refine ⟨inR_i64 (by omega), inR_u8 (by omega), by omega, m_set1 (q + 1) (UInt8.ofNat (49 + q)) ho5 rfl (by omega) (by simp [fU, UInt8.toNat_ofNat', cells_int]; omega) fU_one ?_⟩
      rintro w6 ho6 hg6 hs6
      simp only [↓vsd, vsn, gW, qd, qv, ev, pick, argE, zipE, ne_eq, eq_self, forall_const, implies_true, if_true, if_false, reduceIte, reduceCtorEq, Nat.reduceEqDiff, Nat.reduceAdd, Nat.reduceLT, ↓us_sl2Row, r_sl2Row]
      have hg := grown_trans hg5 hg6
      have e : (l.set q (UInt8.ofNat (49 + (q + 1)))).set (q + 1) (UInt8.ofNat (49 + q)) = swapL l q := by rw [swapL, hgq, hgq1]
      refine ⟨inR_i64 (by omega), inR_i64 (by omega), n + 1 - (q + 1 + 2), by omega, q + 1 + 2, swapL l q, rfl, by omega, by omega, rfl, by rw [swapL_len]; exact hl, fun j hj hjn => ?_, ?_, ho6.to e, hoA.grown (hx.trans hx4) (Nat.le_refl _) hg⟩
      · rw [swapL_get l q j (by omega), if_neg (by omega), if_neg (by omega)]
        exact hget j (by omega) hjn
      · rw [← hsw, swapsL_swap hlt hst]
        rfl
    · rw [← hsw, swapsL_stay hlt (by simpa using hst)]
  · have hltI : ¬ (p : Int) < n := by omega
    simp only [↓vsd, vsn, gW, qd, qv, ev, pick, argE, zipE, ne_eq, eq_self, forall_const, implies_true, if_true, if_false, reduceIte, reduceCtorEq, Nat.reduceEqDiff, Nat.reduceAdd, Nat.reduceLT, ↓us_sl2Row, r_sl2Row, hltI]
    refine m_b2s ho.sq ?_
    simp only [↓vsd, vsn, gW, qd, qv, ev, pick, argE, zipE, ne_eq, eq_self, forall_const, implies_true, if_true, if_false, reduceIte, reduceCtorEq, Nat.reduceEqDiff, Nat.reduceAdd, Nat.reduceLT, ↓us_sl2Row, r_sl2Row]
    exact ⟨hx, by rw [← hsw, swapsL_end (by omega)]; rfl⟩
theorem iapply_ok (l c : List UInt8) (hl : IsRow l) (hc : c.length ≤ 1048576) (hd : c = [45] ∨ DigUp c c.length) (w : World) : Fn 114 [S l, S c] w (fun v _ => v = S (applyL l c)) := by
  (refine callsV_of mix Try.func114 c_iapply ?_; simp only [↓vsd, vsn, gW, qd, qv, ev, pick, argE, zipE, ne_eq, eq_self, forall_const, implies_true, if_true, if_false, reduceIte, reduceCtorEq, Nat.reduceEqDiff, Nat.reduceAdd, Nat.reduceLT, ↓us_iapply, r_iapply])
  refine m_call (ichangeRow_ok _ c hl.1 hc hd _) ?_
  rintro _ w1 hx1 rfl
  simp only [↓vsd, vsn, gW, qd, qv, ev, pick, argE, zipE, ne_eq, eq_self, forall_const, implies_true, if_true, if_false, reduceIte, reduceCtorEq, Nat.reduceEqDiff, Nat.reduceAdd, Nat.reduceLT, ↓us_iapply, r_iapply]
  refine m_call (itimes_ok l _ (chgL_row _ c hl.1) (chgL_len _ _).symm _) ?_
  rintro _ w2 hx2 rfl
  simp only [↓vsd, vsn, gW, qd, qv, ev, pick, argE, zipE, ne_eq, eq_self, forall_const, implies_true, if_true, if_false, reduceIte, reduceCtorEq, Nat.reduceEqDiff, Nat.reduceAdd, Nat.reduceLT, ↓us_iapply, r_iapply]
  exact ⟨hx1.trans hx2, rfl⟩
theorem sl2Apply_ok (l c : List UInt8) (hl : IsRow l) (hc : c.length ≤ 1048576) (w : World) : Fn 108 [S l, S c] w (fun v _ => v = S (applyL l c)) := by
  (refine callsV_of mix Try.func108 c_sl2Apply ?_; simp only [↓vsd, vsn, gW, qd, qv, ev, pick, argE, zipE, ne_eq, eq_self, forall_const, implies_true, if_true, if_false, reduceIte, reduceCtorEq, Nat.reduceEqDiff, Nat.reduceAdd, Nat.reduceLT, ↓us_sl2Apply, r_sl2Apply])
  refine m_call (sl2Row_ok _ c hl.1 hc _) ?_
  rintro _ w1 hx1 rfl
  simp only [↓vsd, vsn, gW, qd, qv, ev, pick, argE, zipE, ne_eq, eq_self, forall_const, implies_true, if_true, if_false, reduceIte, reduceCtorEq, Nat.reduceEqDiff, Nat.reduceAdd, Nat.reduceLT, ↓us_sl2Apply, r_sl2Apply]
  refine m_call (sl1Times_ok l _ (chgL_row _ c hl.1) (chgL_len _ _).symm _) ?_
  rintro _ w2 hx2 rfl
  simp only [↓vsd, vsn, gW, qd, qv, ev, pick, argE, zipE, ne_eq, eq_self, forall_const, implies_true, if_true, if_false, reduceIte, reduceCtorEq, Nat.reduceEqDiff, Nat.reduceAdd, Nat.reduceLT, ↓us_sl2Apply, r_sl2Apply]
  exact ⟨hx1.trans hx2, rfl⟩
end Go.Proofs.Ytfklonhjgkahdaa
