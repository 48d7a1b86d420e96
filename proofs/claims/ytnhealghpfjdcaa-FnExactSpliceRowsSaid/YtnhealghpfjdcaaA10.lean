/-
  Changes: what program and reference compute of one; products of rows.
  Conditions: none.
-/
import Derived.Test.YtnhealghpfjdcaaA9
import Derived.Test.YtnhealghpfjdcaaA4
set_option linter.unusedSimpArgs false
set_option linter.unusedVariables false
set_option linter.defProp false
namespace Go.Proofs.Ytnhealghpfjdcaa
open Go Go.RowKit
section
variable (P : Program) (k : KT) (e : Env) (w : World)
abbrev b190_1 : X := (.cond (.t 21) (.seq (.reg [2, 3] (.c (.q 2 [] (.mv (.c (.slice none 0 0)))) (.c (.q 3 [] (.mv (.c (.bool false)))) .nil))) .ret) .skip)
def t190_1 := b190_1
theorem u190_1 : vcK P t190_1 k e w = vcK P b190_1 k e w := rfl
abbrev b190_2 : X := (.reg [0, 4, 8, 9] (.c (.q 22 [] (.mv (.t 4))) (.c (.q 23 [] (.mv (.t 0))) (.c (.q 24 [] (.mv (.t 5))) (.c (.q 25 [] (.idx (.t 23) (.t 24))) (.c (.q 26 [] (.bin .sub (.t 25) (.c (.int .u8 48)))) (.c (.q 27 [] (.cvi .i64 (.t 26))) (.c (.e (some 28) [] (.bsl 3 1 [(.t 27)])) (.c (.e (some 29) [] (.app 74 3 1 8 [(.int .i64 0)] 74 (.t 22) (.t 28))) (.c (.q 4 [] (.mv (.t 29))) .nil))))))))))
def t190_2 := b190_2
theorem u190_2 : vcK P t190_2 k e w = vcK P b190_2 k e w := rfl
abbrev b190_3 : X := (.seq (.seq (.reg [0, 4, 5, 8, 9, 21] (.c (.q 12 [] (.mv (.t 0))) (.c (.q 13 [] (.mv (.t 5))) (.c (.q 14 [] (.idx (.t 12) (.t 13))) (.c (.q 15 [] (.bin .lss (.t 14) (.c (.int .u8 49)))) (.c (.q 16 [] (.mv (.t 15))) (.c (.q 17 [(16, false)] (.mv (.t 0))) (.c (.q 18 [(16, false)] (.mv (.t 5))) (.c (.q 19 [(16, false)] (.idx (.t 17) (.t 18))) (.c (.q 20 [(16, false)] (.bin .gtr (.t 19) (.c (.int .u8 56)))) (.c (.q 21 [] (.pick (.t 16) (.c (.bool true)) (.t 20))) .nil))))))))))) t190_1) t190_2)
def t190_3 := b190_3
theorem u190_3 : vcK P t190_3 k e w = vcK P b190_3 k e w := rfl
abbrev b190_4 : X := (.reg [0, 4, 8, 9] (.c (.q 30 [] (.bin .add (.t 9) (.c (.int .i64 1)))) (.c (.q 9 [] (.mv (.t 30))) .nil)))
def t190_4 := b190_4
theorem u190_4 : vcK P t190_4 k e w = vcK P b190_4 k e w := rfl
abbrev b190_5 : X := (.seq (.blk 1 (.seq (.reg [0, 4, 5, 8, 9] (.c (.q 11 [] (.mv (.t 9))) (.c (.q 5 [] (.mv (.t 11))) .nil))) t190_3)) t190_4)
def t190_5 := b190_5
theorem u190_5 : vcK P t190_5 k e w = vcK P b190_5 k e w := rfl
abbrev b190_6 : X := (.seq (.cond (.t 10) .skip (.exit 0)) t190_5)
def t190_6 := b190_6
theorem u190_6 : vcK P t190_6 k e w = vcK P b190_6 k e w := rfl
abbrev b190_7 : X := (.seq (.reg [0, 4, 8, 9, 10] (.c (.q 10 [] (.bin .lss (.t 9) (.t 8))) .nil)) t190_6)
def t190_7 := b190_7
theorem u190_7 : vcK P t190_7 k e w = vcK P b190_7 k e w := rfl
abbrev b190_8 : X := (.blk 0 (.loop [4, 9] [0, 8] t190_7))
def t190_8 := b190_8
theorem u190_8 : vcK P t190_8 k e w = vcK P b190_8 k e w := rfl
abbrev b190_9 : X := (.seq (.reg [2, 3] (.c (.q 31 [] (.mv (.t 4))) (.c (.q 2 [] (.mv (.t 31))) (.c (.q 3 [] (.mv (.c (.bool true)))) .nil)))) .ret)
def t190_9 := b190_9
theorem u190_9 : vcK P t190_9 k e w = vcK P b190_9 k e w := rfl
abbrev b190_10 : X := (.seq (.seq (.reg [0, 4, 8, 9] (.c (.q 7 [] (.mv (.t 0))) (.c (.q 8 [] (.len (.t 7))) (.c (.q 9 [] (.mv (.c (.int .i64 0)))) .nil)))) t190_8) t190_9)
def t190_10 := b190_10
theorem u190_10 : vcK P t190_10 k e w = vcK P b190_10 k e w := rfl
abbrev b190_11 : X := (.seq (.reg [0, 4] (.c (.e (some 6) [] (.bsl 3 1 [])) (.c (.q 4 [] (.mv (.t 6))) .nil))) t190_10)
def t190_11 := b190_11
theorem u190_11 : vcK P t190_11 k e w = vcK P b190_11 k e w := rfl
abbrev b190_0 : X := (.seq (.reg [0] (.c (.q 2 [] (.mv (.c (.slice none 0 0)))) (.c (.q 3 [] (.mv (.c (.bool false)))) .nil))) t190_11)
def x_iplaces := b190_0
theorem u190_0 : vcK P x_iplaces k e w = vcK P b190_0 k e w := rfl
def r_iplaces : List XO := [(.mv (.t 2)), (.mv (.t 3))]
theorem c_iplaces : convF Try.prog [89, 116, 117, 121, 143, 161, 162, 163, 166, 168, 234] Try.f190 [([0], []), ([0, 4], []), ([0, 4, 8, 9], []), ([4, 9], [0, 8]), ([0, 4, 8, 9, 10], []), ([0, 4, 5, 8, 9], []), ([0, 4, 5, 8, 9, 21], []), ([2, 3], []), ([0, 4, 8, 9], []), ([0, 4, 8, 9], []), ([2, 3], [])] = some (x_iplaces, r_iplaces) := by kernel_rfl
def us_iplaces := aI @u190_0 (aI @u190_1 (aI @u190_2 (aI @u190_3 (aI @u190_4 (aI @u190_5 (aI @u190_6 (aI @u190_7 (aI @u190_8 (aI @u190_9 (aI @u190_10 @u190_11))))))))))
abbrev b191_1 : X := (.cond (.t 43) (.seq (.reg [4] (.c (.q 4 [] (.mv (.c (.bool false)))) .nil)) .ret) .skip)
def t191_1 := b191_1
theorem u191_1 : vcK P t191_1 k e w = vcK P b191_1 k e w := rfl
abbrev b191_2 : X := (.cond (.t 47) .skip (.exit 0))
def t191_2 := b191_2
theorem u191_2 : vcK P t191_2 k e w = vcK P b191_2 k e w := rfl
abbrev b191_3 : X := (.cond (.t 73) (.seq (.reg [4] (.c (.q 4 [] (.mv (.c (.bool false)))) .nil)) .ret) .skip)
def t191_3 := b191_3
theorem u191_3 : vcK P t191_3 k e w = vcK P b191_3 k e w := rfl
abbrev b191_4 : X := (.reg [1, 5] (.c (.q 48 [] (.mv (.t 5))) (.c (.q 49 [] (.bin .add (.t 48) (.c (.int .i64 1)))) (.c (.q 5 [] (.mv (.t 49))) .nil))))
def t191_4 := b191_4
theorem u191_4 : vcK P t191_4 k e w = vcK P b191_4 k e w := rfl
abbrev b191_5 : X := (.seq (.blk 1 (.seq (.drw [1, 5, 73] (.c (.q 50 [] (.mv (.t 1))) (.c (.q 51 [] (.mv (.t 5))) (.c (.q 52 [] (.ia 1 (.t 50) (.t 51))) (.c (.q 53 [] (.ld (.t 52))) (.c (.q 54 [] (.mv (.t 1))) (.c (.q 55 [] (.mv (.t 5))) (.c (.q 56 [] (.bin .sub (.t 55) (.c (.int .i64 1)))) (.c (.q 57 [] (.ia 1 (.t 54) (.t 56))) (.c (.q 58 [] (.ld (.t 57))) (.c (.q 59 [] (.bin .leq (.t 53) (.t 58))) (.c (.q 60 [] (.mv (.t 59))) (.c (.q 61 [(60, false)] (.mv (.t 1))) (.c (.q 62 [(60, false)] (.mv (.t 5))) (.c (.q 63 [(60, false)] (.ia 1 (.t 61) (.t 62))) (.c (.q 64 [(60, false)] (.ld (.t 63))) (.c (.q 65 [(60, false)] (.mv (.t 1))) (.c (.q 66 [(60, false)] (.mv (.t 5))) (.c (.q 67 [(60, false)] (.bin .sub (.t 66) (.c (.int .i64 1)))) (.c (.q 68 [(60, false)] (.ia 1 (.t 65) (.t 67))) (.c (.q 69 [(60, false)] (.ld (.t 68))) (.c (.q 70 [(60, false)] (.bin .sub (.t 64) (.t 69))) (.c (.q 71 [(60, false)] (.bin .rem (.t 70) (.c (.int .i64 2)))) (.c (.q 72 [(60, false)] (.bin .eql (.t 71) (.c (.int .i64 0)))) (.c (.q 73 [] (.pick (.t 60) (.c (.bool true)) (.t 72))) .nil))))))))))))))))))))))))) t191_3)) t191_4)
def t191_5 := b191_5
theorem u191_5 : vcK P t191_5 k e w = vcK P b191_5 k e w := rfl
abbrev b191_6 : X := (.seq (.seq (.reg [1, 5, 47] (.c (.q 44 [] (.mv (.t 5))) (.c (.q 45 [] (.mv (.t 1))) (.c (.q 46 [] (.lens (.t 45))) (.c (.q 47 [] (.bin .lss (.t 44) (.t 46))) .nil))))) t191_2) t191_5)
def t191_6 := b191_6
theorem u191_6 : vcK P t191_6 k e w = vcK P b191_6 k e w := rfl
abbrev b191_7 : X := (.blk 0 (.loop [5] [1] t191_6))
def t191_7 := b191_7
theorem u191_7 : vcK P t191_7 k e w = vcK P b191_7 k e w := rfl
abbrev b191_8 : X := (.seq (.reg [4] (.c (.q 4 [] (.mv (.c (.bool true)))) .nil)) .ret)
def t191_8 := b191_8
theorem u191_8 : vcK P t191_8 k e w = vcK P b191_8 k e w := rfl
abbrev b191_9 : X := (.seq (.seq (.reg [1, 5] (.c (.q 5 [] (.mv (.c (.int .i64 1)))) .nil)) t191_7) t191_8)
def t191_9 := b191_9
theorem u191_9 : vcK P t191_9 k e w = vcK P b191_9 k e w := rfl
abbrev b191_10 : X := (.seq (.seq (.reg [1, 43] (.c (.q 6 [] (.mv (.t 1))) (.c (.q 7 [] (.lens (.t 6))) (.c (.q 8 [] (.bin .eql (.t 7) (.c (.int .i64 0)))) (.c (.q 9 [] (.mv (.t 8))) (.c (.q 10 [(9, false)] (.mv (.t 1))) (.c (.q 11 [(9, false)] (.lens (.t 10))) (.c (.q 12 [(9, false)] (.mv (.t 0))) (.c (.q 13 [(9, false)] (.bin .eql (.t 11) (.t 12))) (.c (.q 14 [] (.pick (.t 9) (.c (.bool true)) (.t 13))) (.c (.q 15 [] (.mv (.t 14))) (.c (.q 16 [(15, false)] (.mv (.t 1))) (.c (.q 17 [(15, false)] (.ia 1 (.t 16) (.c (.int .i64 0)))) (.c (.q 18 [(15, false)] (.ld (.t 17))) (.c (.q 19 [(15, false)] (.bin .rem (.t 18) (.c (.int .i64 2)))) (.c (.q 20 [(15, false)] (.bin .eql (.t 19) (.c (.int .i64 0)))) (.c (.q 21 [] (.pick (.t 15) (.c (.bool true)) (.t 20))) (.c (.q 22 [] (.mv (.t 21))) (.c (.q 23 [(22, false)] (.mv (.t 1))) (.c (.q 24 [(22, false)] (.mv (.t 1))) (.c (.q 25 [(22, false)] (.lens (.t 24))) (.c (.q 26 [(22, false)] (.bin .sub (.t 25) (.c (.int .i64 1)))) (.c (.q 27 [(22, false)] (.ia 1 (.t 23) (.t 26))) (.c (.q 28 [(22, false)] (.ld (.t 27))) (.c (.q 29 [(22, false)] (.bin .rem (.t 28) (.c (.int .i64 2)))) (.c (.q 30 [(22, false)] (.mv (.t 0))) (.c (.q 31 [(22, false)] (.bin .rem (.t 30) (.c (.int .i64 2)))) (.c (.q 32 [(22, false)] (.bin .neq (.t 29) (.t 31))) (.c (.q 33 [] (.pick (.t 22) (.c (.bool true)) (.t 32))) (.c (.q 34 [] (.mv (.t 33))) (.c (.q 35 [(34, false)] (.mv (.t 1))) (.c (.q 36 [(34, false)] (.mv (.t 1))) (.c (.q 37 [(34, false)] (.lens (.t 36))) (.c (.q 38 [(34, false)] (.bin .sub (.t 37) (.c (.int .i64 1)))) (.c (.q 39 [(34, false)] (.ia 1 (.t 35) (.t 38))) (.c (.q 40 [(34, false)] (.ld (.t 39))) (.c (.q 41 [(34, false)] (.mv (.t 0))) (.c (.q 42 [(34, false)] (.bin .gtr (.t 40) (.t 41))) (.c (.q 43 [] (.pick (.t 34) (.c (.bool true)) (.t 42))) .nil))))))))))))))))))))))))))))))))))))))) t191_1) t191_9)
def t191_10 := b191_10
theorem u191_10 : vcK P t191_10 k e w = vcK P b191_10 k e w := rfl
abbrev b191_0 : X := (.seq (.reg [0, 1] (.c (.q 4 [] (.mv (.c (.bool false)))) .nil)) t191_10)
def x_iarePlaces := b191_0
theorem u191_0 : vcK P x_iarePlaces k e w = vcK P b191_0 k e w := rfl
def r_iarePlaces : List XO := [(.mv (.t 4))]
theorem c_iarePlaces : convF Try.prog [89, 116, 117, 121, 143, 161, 162, 163, 166, 168, 234] Try.f191 [([0, 1], []), ([1, 43], []), ([4], []), ([1, 5], []), ([5], [1]), ([1, 5, 47], []), ([1, 5, 73], []), ([4], []), ([1, 5], []), ([4], [])] = some (x_iarePlaces, r_iarePlaces) := by kernel_rfl
def us_iarePlaces := aI @u191_0 (aI @u191_1 (aI @u191_2 (aI @u191_3 (aI @u191_4 (aI @u191_5 (aI @u191_6 (aI @u191_7 (aI @u191_8 (aI @u191_9 @u191_10)))))))))
abbrev b172_1 : X := (.cond (.t 9) (.seq (.reg [4] (.c (.q 4 [] (.mv (.c (.bool false)))) .nil)) .ret) .skip)
def t172_1 := b172_1
theorem u172_1 : vcK P t172_1 k e w = vcK P b172_1 k e w := rfl
abbrev b172_2 : X := (.cond (.t 11) (.seq (.reg [4] (.c (.q 12 [] (.mv (.t 0))) (.c (.q 13 [] (.bin .rem (.t 12) (.c (.int .i64 2)))) (.c (.q 14 [] (.bin .eql (.t 13) (.c (.int .i64 0)))) (.c (.q 4 [] (.mv (.t 14))) .nil))))) .ret) .skip)
def t172_2 := b172_2
theorem u172_2 : vcK P t172_2 k e w = vcK P b172_2 k e w := rfl
abbrev b172_3 : X := (.seq (.reg [4] (.c (.q 20 [] (.mv (.t 6))) (.c (.q 21 [] (.mv (.t 20))) (.c (.q 22 [(21, true)] (.mv (.t 0))) (.c (.q 23 [(21, true)] (.mv (.t 5))) (.c (.e (some 24) [(21, true)] (.call false 191 [(.t 22), (.t 23)])) (.c (.q 25 [] (.pick (.t 21) (.t 24) (.c (.bool false)))) (.c (.q 4 [] (.mv (.t 25))) .nil)))))))) .ret)
def t172_3 := b172_3
theorem u172_3 : vcK P t172_3 k e w = vcK P b172_3 k e w := rfl
abbrev b172_4 : X := (.seq (.reg [0, 5, 6] (.c (.q 16 [] (.mv (.t 1))) (.c (.e (some 17) [] (.call false 190 [(.t 16)])) (.c (.q 15 [] (.mv (.t 17))) (.c (.q 18 [] (.ext 0 (.t 15))) (.c (.q 19 [] (.ext 1 (.t 15))) (.c (.q 5 [] (.mv (.t 18))) (.c (.q 6 [] (.mv (.t 19))) .nil)))))))) t172_3)
def t172_4 := b172_4
theorem u172_4 : vcK P t172_4 k e w = vcK P b172_4 k e w := rfl
abbrev b172_5 : X := (.seq (.seq (.reg [0, 1, 11] (.c (.q 10 [] (.mv (.t 1))) (.c (.q 11 [] (.bin .eql (.t 10) (.s [45]))) .nil))) t172_2) t172_4)
def t172_5 := b172_5
theorem u172_5 : vcK P t172_5 k e w = vcK P b172_5 k e w := rfl
abbrev b172_6 : X := (.seq (.seq (.reg [0, 1, 9] (.c (.q 7 [] (.mv (.t 0))) (.c (.e (some 8) [] (.call false 108 [(.t 7)])) (.c (.q 9 [] (.not (.t 8))) .nil)))) t172_1) t172_5)
def t172_6 := b172_6
theorem u172_6 : vcK P t172_6 k e w = vcK P b172_6 k e w := rfl
abbrev b172_0 : X := (.seq (.reg [0, 1] (.c (.q 4 [] (.mv (.c (.bool false)))) .nil)) t172_6)
def x_iGoodChange := b172_0
theorem u172_0 : vcK P x_iGoodChange k e w = vcK P b172_0 k e w := rfl
def r_iGoodChange : List XO := [(.mv (.t 4))]
theorem c_iGoodChange : convF Try.prog [89, 116, 117, 121, 143, 161, 162, 163, 166, 168, 234] Try.f172 [([0, 1], []), ([0, 1, 9], []), ([4], []), ([0, 1, 11], []), ([4], []), ([0, 5, 6], []), ([4], [])] = some (x_iGoodChange, r_iGoodChange) := by kernel_rfl
def us_iGoodChange := aI @u172_0 (aI @u172_1 (aI @u172_2 (aI @u172_3 (aI @u172_4 (aI @u172_5 @u172_6)))))
abbrev b157_1 : X := (.cond (.t 21) (.seq (.reg [4] (.c (.q 4 [] (.mv (.c (.bool false)))) .nil)) .ret) .skip)
def t157_1 := b157_1
theorem u157_1 : vcK P t157_1 k e w = vcK P b157_1 k e w := rfl
abbrev b157_2 : X := (.cond (.t 23) (.seq (.reg [4] (.c (.q 24 [] (.mv (.t 0))) (.c (.q 25 [] (.bin .rem (.t 24) (.c (.int .i64 2)))) (.c (.q 26 [] (.bin .eql (.t 25) (.c (.int .i64 0)))) (.c (.q 4 [] (.mv (.t 26))) .nil))))) .ret) .skip)
def t157_2 := b157_2
theorem u157_2 : vcK P t157_2 k e w = vcK P b157_2 k e w := rfl
abbrev b157_3 : X := (.cond (.t 30) .skip (.exit 0))
def t157_3 := b157_3
theorem u157_3 : vcK P t157_3 k e w = vcK P b157_3 k e w := rfl
abbrev b157_4 : X := (.cond (.t 50) (.seq (.reg [4] (.c (.q 4 [] (.mv (.c (.bool false)))) .nil)) .ret) .skip)
def t157_4 := b157_4
theorem u157_4 : vcK P t157_4 k e w = vcK P b157_4 k e w := rfl
abbrev b157_5 : X := (.reg [0, 1, 5, 6] (.c (.q 51 [] (.mv (.t 7))) (.c (.q 5 [] (.mv (.t 51))) .nil)))
def t157_5 := b157_5
theorem u157_5 : vcK P t157_5 k e w = vcK P b157_5 k e w := rfl
abbrev b157_6 : X := (.seq (.seq (.reg [0, 1, 6, 7, 50] (.c (.q 38 [] (.mv (.t 7))) (.c (.q 39 [] (.mv (.t 5))) (.c (.q 40 [] (.bin .add (.t 39) (.c (.int .i64 1)))) (.c (.q 41 [] (.mv (.t 0))) (.c (.e (some 42) [] (.call false 118 [(.t 38), (.t 40), (.t 41)])) (.c (.q 43 [] (.not (.t 42))) (.c (.q 44 [] (.mv (.t 43))) (.c (.q 45 [(44, false)] (.mv (.t 7))) (.c (.q 46 [(44, false)] (.mv (.t 5))) (.c (.q 47 [(44, false)] (.bin .sub (.t 45) (.t 46))) (.c (.q 48 [(44, false)] (.bin .rem (.t 47) (.c (.int .i64 2)))) (.c (.q 49 [(44, false)] (.bin .eql (.t 48) (.c (.int .i64 0)))) (.c (.q 50 [] (.pick (.t 44) (.c (.bool true)) (.t 49))) .nil)))))))))))))) t157_4) t157_5)
def t157_6 := b157_6
theorem u157_6 : vcK P t157_6 k e w = vcK P b157_6 k e w := rfl
abbrev b157_7 : X := (.reg [0, 1, 5, 6] (.c (.q 31 [] (.mv (.t 6))) (.c (.q 32 [] (.bin .add (.t 31) (.c (.int .i64 1)))) (.c (.q 6 [] (.mv (.t 32))) .nil))))
def t157_7 := b157_7
theorem u157_7 : vcK P t157_7 k e w = vcK P b157_7 k e w := rfl
abbrev b157_8 : X := (.seq (.blk 1 (.seq (.reg [0, 1, 5, 6, 7] (.c (.q 33 [] (.mv (.t 1))) (.c (.q 34 [] (.mv (.t 6))) (.c (.q 35 [] (.idx (.t 33) (.t 34))) (.c (.q 36 [] (.cvi .i64 (.t 35))) (.c (.q 37 [] (.bin .sub (.t 36) (.c (.int .i64 48)))) (.c (.q 7 [] (.mv (.t 37))) .nil))))))) t157_6)) t157_7)
def t157_8 := b157_8
theorem u157_8 : vcK P t157_8 k e w = vcK P b157_8 k e w := rfl
abbrev b157_9 : X := (.seq (.seq (.reg [0, 1, 5, 6, 30] (.c (.q 27 [] (.mv (.t 6))) (.c (.q 28 [] (.mv (.t 1))) (.c (.q 29 [] (.len (.t 28))) (.c (.q 30 [] (.bin .lss (.t 27) (.t 29))) .nil))))) t157_3) t157_8)
def t157_9 := b157_9
theorem u157_9 : vcK P t157_9 k e w = vcK P b157_9 k e w := rfl
abbrev b157_10 : X := (.blk 0 (.loop [5, 6] [0, 1] t157_9))
def t157_10 := b157_10
theorem u157_10 : vcK P t157_10 k e w = vcK P b157_10 k e w := rfl
abbrev b157_11 : X := (.seq (.reg [4] (.c (.q 52 [] (.mv (.t 0))) (.c (.q 53 [] (.mv (.t 5))) (.c (.q 54 [] (.bin .sub (.t 52) (.t 53))) (.c (.q 55 [] (.bin .rem (.t 54) (.c (.int .i64 2)))) (.c (.q 56 [] (.bin .eql (.t 55) (.c (.int .i64 0)))) (.c (.q 4 [] (.mv (.t 56))) .nil))))))) .ret)
def t157_11 := b157_11
theorem u157_11 : vcK P t157_11 k e w = vcK P b157_11 k e w := rfl
abbrev b157_12 : X := (.seq (.seq (.reg [0, 1, 5, 6] (.c (.q 6 [] (.mv (.c (.int .i64 0)))) .nil)) t157_10) t157_11)
def t157_12 := b157_12
theorem u157_12 : vcK P t157_12 k e w = vcK P b157_12 k e w := rfl
abbrev b157_13 : X := (.seq (.reg [0, 1, 5] (.c (.q 5 [] (.mv (.c (.int .i64 0)))) .nil)) t157_12)
def t157_13 := b157_13
theorem u157_13 : vcK P t157_13 k e w = vcK P b157_13 k e w := rfl
abbrev b157_14 : X := (.seq (.seq (.reg [0, 1, 23] (.c (.q 22 [] (.mv (.t 1))) (.c (.q 23 [] (.bin .eql (.t 22) (.s [45]))) .nil))) t157_2) t157_13)
def t157_14 := b157_14
theorem u157_14 : vcK P t157_14 k e w = vcK P b157_14 k e w := rfl
abbrev b157_15 : X := (.seq (.seq (.reg [0, 1, 21] (.c (.q 8 [] (.mv (.t 0))) (.c (.e (some 9) [] (.call false 118 [(.t 8), (.c (.int .i64 3)), (.c (.int .i64 8))])) (.c (.q 10 [] (.not (.t 9))) (.c (.q 11 [] (.mv (.t 10))) (.c (.q 12 [(11, false)] (.mv (.t 1))) (.c (.q 13 [(11, false)] (.bin .eql (.t 12) (.s []))) (.c (.q 14 [] (.pick (.t 11) (.c (.bool true)) (.t 13))) (.c (.q 15 [] (.mv (.t 14))) (.c (.q 16 [(15, false)] (.mv (.t 1))) (.c (.q 17 [(15, false)] (.len (.t 16))) (.c (.q 18 [(15, false)] (.mv (.t 0))) (.c (.q 19 [(15, false)] (.bin .sub (.t 18) (.c (.int .i64 2)))) (.c (.q 20 [(15, false)] (.bin .gtr (.t 17) (.t 19))) (.c (.q 21 [] (.pick (.t 15) (.c (.bool true)) (.t 20))) .nil))))))))))))))) t157_1) t157_14)
def t157_15 := b157_15
theorem u157_15 : vcK P t157_15 k e w = vcK P b157_15 k e w := rfl
abbrev b157_0 : X := (.seq (.reg [0, 1] (.c (.q 4 [] (.mv (.c (.bool false)))) .nil)) t157_15)
def x_sl2Change := b157_0
theorem u157_0 : vcK P x_sl2Change k e w = vcK P b157_0 k e w := rfl
def r_sl2Change : List XO := [(.mv (.t 4))]
theorem c_sl2Change : convF Try.prog [89, 116, 117, 121, 143, 161, 162, 163, 166, 168, 234] Try.f157 [([0, 1], []), ([0, 1, 21], []), ([4], []), ([0, 1, 23], []), ([4], []), ([0, 1, 5], []), ([0, 1, 5, 6], []), ([5, 6], [0, 1]), ([0, 1, 5, 6, 30], []), ([0, 1, 5, 6, 7], []), ([0, 1, 6, 7, 50], []), ([4], []), ([0, 1, 5, 6], []), ([0, 1, 5, 6], []), ([4], [])] = some (x_sl2Change, r_sl2Change) := by kernel_rfl
def us_sl2Change := aI @u157_0 (aI @u157_1 (aI @u157_2 (aI @u157_3 (aI @u157_4 (aI @u157_5 (aI @u157_6 (aI @u157_7 (aI @u157_8 (aI @u157_9 (aI @u157_10 (aI @u157_11 (aI @u157_12 (aI @u157_13 (aI @u157_14 @u157_15))))))))))))))
abbrev b217_1 : X := (.cond (.t 16) (.seq (.reg [4] (.c (.q 17 [] (.mv (.t 5))) (.c (.q 4 [] (.mv (.t 17))) .nil))) .ret) .skip)
def t217_1 := b217_1
theorem u217_1 : vcK P t217_1 k e w = vcK P b217_1 k e w := rfl
abbrev b217_2 : X := (.seq (.reg [0, 1, 5, 7, 8, 16] (.c (.q 11 [] (.mv (.t 1))) (.c (.q 12 [] (.mv (.t 0))) (.c (.q 13 [] (.mv (.t 5))) (.c (.q 14 [] (.ia 1 (.t 12) (.t 13))) (.c (.q 15 [] (.ld (.t 14))) (.c (.q 16 [] (.bin .eql (.t 11) (.t 15))) .nil))))))) t217_1)
def t217_2 := b217_2
theorem u217_2 : vcK P t217_2 k e w = vcK P b217_2 k e w := rfl
abbrev b217_3 : X := (.reg [0, 1, 7, 8] (.c (.q 18 [] (.bin .add (.t 8) (.c (.int .i64 1)))) (.c (.q 8 [] (.mv (.t 18))) .nil)))
def t217_3 := b217_3
theorem u217_3 : vcK P t217_3 k e w = vcK P b217_3 k e w := rfl
abbrev b217_4 : X := (.seq (.blk 1 (.seq (.reg [0, 1, 5, 7, 8] (.c (.q 10 [] (.mv (.t 8))) (.c (.q 5 [] (.mv (.t 10))) .nil))) t217_2)) t217_3)
def t217_4 := b217_4
theorem u217_4 : vcK P t217_4 k e w = vcK P b217_4 k e w := rfl
abbrev b217_5 : X := (.seq (.cond (.t 9) .skip (.exit 0)) t217_4)
def t217_5 := b217_5
theorem u217_5 : vcK P t217_5 k e w = vcK P b217_5 k e w := rfl
abbrev b217_6 : X := (.seq (.reg [0, 1, 7, 8, 9] (.c (.q 9 [] (.bin .lss (.t 8) (.t 7))) .nil)) t217_5)
def t217_6 := b217_6
theorem u217_6 : vcK P t217_6 k e w = vcK P b217_6 k e w := rfl
abbrev b217_7 : X := (.blk 0 (.loop [8] [0, 1, 7] t217_6))
def t217_7 := b217_7
theorem u217_7 : vcK P t217_7 k e w = vcK P b217_7 k e w := rfl
abbrev b217_8 : X := (.seq (.reg [4] (.c (.q 4 [] (.mv (.c (.int .i64 (-1))))) .nil)) .ret)
def t217_8 := b217_8
theorem u217_8 : vcK P t217_8 k e w = vcK P b217_8 k e w := rfl
abbrev b217_9 : X := (.seq (.seq (.reg [0, 1, 7, 8] (.c (.q 6 [] (.mv (.t 0))) (.c (.q 7 [] (.lens (.t 6))) (.c (.q 8 [] (.mv (.c (.int .i64 0)))) .nil)))) t217_7) t217_8)
def t217_9 := b217_9
theorem u217_9 : vcK P t217_9 k e w = vcK P b217_9 k e w := rfl
abbrev b217_0 : X := (.seq (.reg [0, 1] (.c (.q 4 [] (.mv (.c (.int .i64 0)))) .nil)) t217_9)
def x_xslices_Index_int_int := b217_0
theorem u217_0 : vcK P x_xslices_Index_int_int k e w = vcK P b217_0 k e w := rfl
def r_xslices_Index_int_int : List XO := [(.mv (.t 4))]
theorem c_xslices_Index_int_int : convF Try.prog [89, 116, 117, 121, 143, 161, 162, 163, 166, 168, 234] Try.f217 [([0, 1], []), ([0, 1, 7, 8], []), ([8], [0, 1, 7]), ([0, 1, 7, 8, 9], []), ([0, 1, 5, 7, 8], []), ([0, 1, 5, 7, 8, 16], []), ([4], []), ([0, 1, 7, 8], []), ([4], [])] = some (x_xslices_Index_int_int, r_xslices_Index_int_int) := by kernel_rfl
def us_xslices_Index_int_int := aI @u217_0 (aI @u217_1 (aI @u217_2 (aI @u217_3 (aI @u217_4 (aI @u217_5 (aI @u217_6 (aI @u217_7 (aI @u217_8 @u217_9))))))))
abbrev b216_1 : X := (.seq (.reg [4] (.c (.q 5 [] (.mv (.t 0))) (.c (.q 6 [] (.mv (.t 1))) (.c (.e (some 7) [] (.call false 217 [(.t 5), (.t 6)])) (.c (.q 8 [] (.bin .geq (.t 7) (.c (.int .i64 0)))) (.c (.q 4 [] (.mv (.t 8))) .nil)))))) .ret)
def t216_1 := b216_1
theorem u216_1 : vcK P t216_1 k e w = vcK P b216_1 k e w := rfl
abbrev b216_0 : X := (.seq (.reg [0, 1] (.c (.q 4 [] (.mv (.c (.bool false)))) .nil)) t216_1)
def x_xslices_Contains_int_int := b216_0
theorem u216_0 : vcK P x_xslices_Contains_int_int k e w = vcK P b216_0 k e w := rfl
def r_xslices_Contains_int_int : List XO := [(.mv (.t 4))]
theorem c_xslices_Contains_int_int : convF Try.prog [89, 116, 117, 121, 143, 161, 162, 163, 166, 168, 234] Try.f216 [([0, 1], []), ([4], [])] = some (x_xslices_Contains_int_int, r_xslices_Contains_int_int) := by kernel_rfl
def us_xslices_Contains_int_int := aI @u216_0 @u216_1
abbrev b215_1 : X := (.cond (.t 6) (.seq (.reg [2] (.c (.e (some 7) [] (.bsl 3 1 [])) (.c (.q 2 [] (.mv (.t 7))) .nil))) .ret) .skip)
def t215_1 := b215_1
theorem u215_1 : vcK P t215_1 k e w = vcK P b215_1 k e w := rfl
abbrev b215_2 : X := (.seq (.reg [2] (.c (.q 13 [] (.mv (.t 3))) (.c (.q 2 [] (.mv (.t 13))) .nil))) .ret)
def t215_2 := b215_2
theorem u215_2 : vcK P t215_2 k e w = vcK P b215_2 k e w := rfl
abbrev b215_3 : X := (.seq (.reg [3] (.c (.q 9 [] (.mv (.t 0))) (.c (.e (some 10) [] (.call false 190 [(.t 9)])) (.c (.q 8 [] (.mv (.t 10))) (.c (.q 11 [] (.ext 0 (.t 8))) (.c (.q 12 [] (.ext 1 (.t 8))) (.c (.q 3 [] (.mv (.t 11))) (.c (.q 4 [] (.mv (.t 12))) .nil)))))))) t215_2)
def t215_3 := b215_3
theorem u215_3 : vcK P t215_3 k e w = vcK P b215_3 k e w := rfl
abbrev b215_4 : X := (.seq (.seq (.reg [0, 6] (.c (.q 5 [] (.mv (.t 0))) (.c (.q 6 [] (.bin .eql (.t 5) (.s [45]))) .nil))) t215_1) t215_3)
def t215_4 := b215_4
theorem u215_4 : vcK P t215_4 k e w = vcK P b215_4 k e w := rfl
abbrev b215_0 : X := (.seq (.reg [0] (.c (.q 2 [] (.mv (.c (.slice none 0 0)))) .nil)) t215_4)
def x_iplacesOf := b215_0
theorem u215_0 : vcK P x_iplacesOf k e w = vcK P b215_0 k e w := rfl
def r_iplacesOf : List XO := [(.mv (.t 2))]
theorem c_iplacesOf : convF Try.prog [89, 116, 117, 121, 143, 161, 162, 163, 166, 168, 234] Try.f215 [([0], []), ([0, 6], []), ([2], []), ([3], []), ([2], [])] = some (x_iplacesOf, r_iplacesOf) := by kernel_rfl
def us_iplacesOf := aI @u215_0 (aI @u215_1 (aI @u215_2 (aI @u215_3 @u215_4)))
abbrev b213_1 : X := (.cond (.t 13) .skip (.exit 0))
def t213_1 := b213_1
theorem u213_1 : vcK P t213_1 k e w = vcK P b213_1 k e w := rfl
abbrev b213_2 : X := (.reg [0, 5, 6, 7] (.c (.q 24 [] (.mv (.t 7))) (.c (.q 25 [] (.bin .add (.t 24) (.c (.int .i64 1)))) (.c (.q 7 [] (.mv (.t 25))) .nil))))
def t213_2 := b213_2
theorem u213_2 : vcK P t213_2 k e w = vcK P b213_2 k e w := rfl
abbrev b213_3 : X := (.cond (.t 19) (.seq (.reg [0, 5, 6, 7] (.c (.q 20 [] (.mv (.t 6))) (.c (.q 21 [] (.mv (.t 7))) (.c (.e (some 22) [] (.bsl 3 1 [(.t 21)])) (.c (.e (some 23) [] (.app 74 3 1 8 [(.int .i64 0)] 74 (.t 20) (.t 22))) (.c (.q 6 [] (.mv (.t 23))) .nil)))))) t213_2) .skip)
def t213_3 := b213_3
theorem u213_3 : vcK P t213_3 k e w = vcK P b213_3 k e w := rfl
abbrev b213_4 : X := (.reg [0, 5, 6, 7] (.c (.q 14 [] (.mv (.t 7))) (.c (.q 15 [] (.bin .add (.t 14) (.c (.int .i64 1)))) (.c (.q 7 [] (.mv (.t 15))) .nil))))
def t213_4 := b213_4
theorem u213_4 : vcK P t213_4 k e w = vcK P b213_4 k e w := rfl
abbrev b213_5 : X := (.seq (.blk 1 (.seq (.reg [0, 5, 6, 7, 19] (.c (.q 16 [] (.mv (.t 5))) (.c (.q 17 [] (.mv (.t 7))) (.c (.e (some 18) [] (.call false 216 [(.t 16), (.t 17)])) (.c (.q 19 [] (.not (.t 18))) .nil))))) t213_3)) t213_4)
def t213_5 := b213_5
theorem u213_5 : vcK P t213_5 k e w = vcK P b213_5 k e w := rfl
abbrev b213_6 : X := (.seq (.seq (.reg [0, 5, 6, 7, 13] (.c (.q 11 [] (.mv (.t 7))) (.c (.q 12 [] (.mv (.t 0))) (.c (.q 13 [] (.bin .lss (.t 11) (.t 12))) .nil)))) t213_1) t213_5)
def t213_6 := b213_6
theorem u213_6 : vcK P t213_6 k e w = vcK P b213_6 k e w := rfl
abbrev b213_7 : X := (.blk 0 (.loop [6, 7] [0, 5] t213_6))
def t213_7 := b213_7
theorem u213_7 : vcK P t213_7 k e w = vcK P b213_7 k e w := rfl
abbrev b213_8 : X := (.seq (.reg [4] (.c (.q 26 [] (.mv (.t 6))) (.c (.q 4 [] (.mv (.t 26))) .nil))) .ret)
def t213_8 := b213_8
theorem u213_8 : vcK P t213_8 k e w = vcK P b213_8 k e w := rfl
abbrev b213_9 : X := (.seq (.seq (.reg [0, 5, 6, 7] (.c (.q 7 [] (.mv (.c (.int .i64 1)))) .nil)) t213_7) t213_8)
def t213_9 := b213_9
theorem u213_9 : vcK P t213_9 k e w = vcK P b213_9 k e w := rfl
abbrev b213_10 : X := (.seq (.reg [0, 5, 6] (.c (.e (some 10) [] (.bsl 3 1 [])) (.c (.q 6 [] (.mv (.t 10))) .nil))) t213_9)
def t213_10 := b213_10
theorem u213_10 : vcK P t213_10 k e w = vcK P b213_10 k e w := rfl
abbrev b213_11 : X := (.seq (.reg [0, 5] (.c (.q 8 [] (.mv (.t 1))) (.c (.e (some 9) [] (.call false 215 [(.t 8)])) (.c (.q 5 [] (.mv (.t 9))) .nil)))) t213_10)
def t213_11 := b213_11
theorem u213_11 : vcK P t213_11 k e w = vcK P b213_11 k e w := rfl
abbrev b213_0 : X := (.seq (.reg [0, 1] (.c (.q 4 [] (.mv (.c (.slice none 0 0)))) .nil)) t213_11)
def x_iswapsOf := b213_0
theorem u213_0 : vcK P x_iswapsOf k e w = vcK P b213_0 k e w := rfl
def r_iswapsOf : List XO := [(.mv (.t 4))]
theorem c_iswapsOf : convF Try.prog [89, 116, 117, 121, 143, 161, 162, 163, 166, 168, 234] Try.f213 [([0, 1], []), ([0, 5], []), ([0, 5, 6], []), ([0, 5, 6, 7], []), ([6, 7], [0, 5]), ([0, 5, 6, 7, 13], []), ([0, 5, 6, 7, 19], []), ([0, 5, 6, 7], []), ([0, 5, 6, 7], []), ([0, 5, 6, 7], []), ([4], [])] = some (x_iswapsOf, r_iswapsOf) := by kernel_rfl
def us_iswapsOf := aI @u213_0 (aI @u213_1 (aI @u213_2 (aI @u213_3 (aI @u213_4 (aI @u213_5 (aI @u213_6 (aI @u213_7 (aI @u213_8 (aI @u213_9 (aI @u213_10 @u213_11))))))))))
abbrev b204_1 : X := (.drw [5, 13, 14, 15] (.c (.q 19 [] (.mv (.t 5))) (.c (.q 20 [] (.mv (.t 7))) (.c (.q 21 [] (.bin .sub (.t 20) (.c (.int .i64 1)))) (.c (.q 22 [] (.mv (.t 5))) (.c (.q 23 [] (.mv (.t 7))) (.c (.q 24 [] (.mv (.t 5))) (.c (.q 25 [] (.mv (.t 7))) (.c (.q 26 [] (.ia 1 (.t 24) (.t 25))) (.c (.q 27 [] (.ld (.t 26))) (.c (.q 28 [] (.mv (.t 5))) (.c (.q 29 [] (.mv (.t 7))) (.c (.q 30 [] (.bin .sub (.t 29) (.c (.int .i64 1)))) (.c (.q 31 [] (.ia 1 (.t 28) (.t 30))) (.c (.q 32 [] (.ld (.t 31))) (.c (.q 33 [] (.ia 1 (.t 19) (.t 21))) (.c (.e none [] (.st 1 (.t 33) (.t 27))) (.c (.q 34 [] (.ia 1 (.t 22) (.t 23))) (.c (.e none [] (.st 1 (.t 34) (.t 32))) .nil)))))))))))))))))))
def t204_1 := b204_1
theorem u204_1 : vcK P t204_1 k e w = vcK P b204_1 k e w := rfl
abbrev b204_2 : X := (.reg [5, 13, 14, 15] (.c (.q 35 [] (.bin .add (.t 15) (.c (.int .i64 1)))) (.c (.q 15 [] (.mv (.t 35))) .nil)))
def t204_2 := b204_2
theorem u204_2 : vcK P t204_2 k e w = vcK P b204_2 k e w := rfl
abbrev b204_3 : X := (.seq (.blk 1 (.seq (.reg [5, 7, 13, 14, 15] (.c (.q 17 [] (.ia 1 (.t 13) (.t 15))) (.c (.q 18 [] (.ld (.t 17))) (.c (.q 7 [] (.mv (.t 18))) .nil)))) t204_1)) t204_2)
def t204_3 := b204_3
theorem u204_3 : vcK P t204_3 k e w = vcK P b204_3 k e w := rfl
abbrev b204_4 : X := (.seq (.cond (.t 16) .skip (.exit 0)) t204_3)
def t204_4 := b204_4
theorem u204_4 : vcK P t204_4 k e w = vcK P b204_4 k e w := rfl
abbrev b204_5 : X := (.seq (.reg [5, 13, 14, 15, 16] (.c (.q 16 [] (.bin .lss (.t 15) (.t 14))) .nil)) t204_4)
def t204_5 := b204_5
theorem u204_5 : vcK P t204_5 k e w = vcK P b204_5 k e w := rfl
abbrev b204_6 : X := (.blk 0 (.loop [15] [5, 13, 14] t204_5))
def t204_6 := b204_6
theorem u204_6 : vcK P t204_6 k e w = vcK P b204_6 k e w := rfl
abbrev b204_7 : X := (.seq (.reg [4] (.c (.q 36 [] (.mv (.t 5))) (.c (.e (some 37) [] (.b2s (.t 36))) (.c (.q 4 [] (.mv (.t 37))) .nil)))) .ret)
def t204_7 := b204_7
theorem u204_7 : vcK P t204_7 k e w = vcK P b204_7 k e w := rfl
abbrev b204_8 : X := (.seq (.seq (.reg [5, 13, 14, 15] (.c (.q 11 [] (.mv (.t 0))) (.c (.q 12 [] (.mv (.t 1))) (.c (.e (some 13) [] (.call false 213 [(.t 11), (.t 12)])) (.c (.q 14 [] (.lens (.t 13))) (.c (.q 15 [] (.mv (.c (.int .i64 0)))) .nil)))))) t204_6) t204_7)
def t204_8 := b204_8
theorem u204_8 : vcK P t204_8 k e w = vcK P b204_8 k e w := rfl
abbrev b204_9 : X := (.seq (.reg [0, 1, 5] (.c (.q 8 [] (.mv (.t 0))) (.c (.e (some 9) [] (.call false 111 [(.t 8)])) (.c (.e (some 10) [] (.s2b 5 (.t 9))) (.c (.q 5 [] (.mv (.t 10))) .nil))))) t204_8)
def t204_9 := b204_9
theorem u204_9 : vcK P t204_9 k e w = vcK P b204_9 k e w := rfl
abbrev b204_0 : X := (.seq (.reg [0, 1] (.c (.q 4 [] (.mv (.s []))) .nil)) t204_9)
def x_ichangeRow := b204_0
theorem u204_0 : vcK P x_ichangeRow k e w = vcK P b204_0 k e w := rfl
def r_ichangeRow : List XO := [(.mv (.t 4))]
theorem c_ichangeRow : convF Try.prog [89, 116, 117, 121, 143, 161, 162, 163, 166, 168, 234] Try.f204 [([0, 1], []), ([0, 1, 5], []), ([5, 13, 14, 15], []), ([15], [5, 13, 14]), ([5, 13, 14, 15, 16], []), ([5, 7, 13, 14, 15], []), ([5, 13, 14, 15], []), ([5, 13, 14, 15], []), ([4], [])] = some (x_ichangeRow, r_ichangeRow) := by kernel_rfl
def us_ichangeRow := aI @u204_0 (aI @u204_1 (aI @u204_2 (aI @u204_3 (aI @u204_4 (aI @u204_5 (aI @u204_6 (aI @u204_7 (aI @u204_8 @u204_9))))))))
abbrev b75_1 : X := (.reg [0, 1, 5, 11, 12] (.c (.q 15 [] (.mv (.t 5))) (.c (.q 16 [] (.mv (.t 6))) (.c (.q 17 [] (.mv (.t 0))) (.c (.q 18 [] (.mv (.t 1))) (.c (.q 19 [] (.mv (.t 6))) (.c (.q 20 [] (.idx (.t 18) (.t 19))) (.c (.q 21 [] (.bin .sub (.t 20) (.c (.int .u8 49)))) (.c (.q 22 [] (.idx (.t 17) (.t 21))) (.c (.q 23 [] (.ia 1 (.t 15) (.t 16))) (.c (.e none [] (.st 1 (.t 23) (.t 22))) .nil)))))))))))
def t75_1 := b75_1
theorem u75_1 : vcK P t75_1 k e w = vcK P b75_1 k e w := rfl
abbrev b75_2 : X := (.reg [0, 1, 5, 11, 12] (.c (.q 24 [] (.bin .add (.t 12) (.c (.int .i64 1)))) (.c (.q 12 [] (.mv (.t 24))) .nil)))
def t75_2 := b75_2
theorem u75_2 : vcK P t75_2 k e w = vcK P b75_2 k e w := rfl
abbrev b75_3 : X := (.seq (.blk 1 (.seq (.reg [0, 1, 5, 6, 11, 12] (.c (.q 14 [] (.mv (.t 12))) (.c (.q 6 [] (.mv (.t 14))) .nil))) t75_1)) t75_2)
def t75_3 := b75_3
theorem u75_3 : vcK P t75_3 k e w = vcK P b75_3 k e w := rfl
abbrev b75_4 : X := (.seq (.cond (.t 13) .skip (.exit 0)) t75_3)
def t75_4 := b75_4
theorem u75_4 : vcK P t75_4 k e w = vcK P b75_4 k e w := rfl
abbrev b75_5 : X := (.seq (.reg [0, 1, 5, 11, 12, 13] (.c (.q 13 [] (.bin .lss (.t 12) (.t 11))) .nil)) t75_4)
def t75_5 := b75_5
theorem u75_5 : vcK P t75_5 k e w = vcK P b75_5 k e w := rfl
abbrev b75_6 : X := (.blk 0 (.loop [12] [0, 1, 5, 11] t75_5))
def t75_6 := b75_6
theorem u75_6 : vcK P t75_6 k e w = vcK P b75_6 k e w := rfl
abbrev b75_7 : X := (.seq (.reg [4] (.c (.q 25 [] (.mv (.t 5))) (.c (.e (some 26) [] (.b2s (.t 25))) (.c (.q 4 [] (.mv (.t 26))) .nil)))) .ret)
def t75_7 := b75_7
theorem u75_7 : vcK P t75_7 k e w = vcK P b75_7 k e w := rfl
abbrev b75_8 : X := (.seq (.seq (.reg [0, 1, 5, 11, 12] (.c (.q 10 [] (.mv (.t 5))) (.c (.q 11 [] (.lens (.t 10))) (.c (.q 12 [] (.mv (.c (.int .i64 0)))) .nil)))) t75_6) t75_7)
def t75_8 := b75_8
theorem u75_8 : vcK P t75_8 k e w = vcK P b75_8 k e w := rfl
abbrev b75_9 : X := (.seq (.reg [0, 1, 5] (.c (.q 7 [] (.mv (.t 1))) (.c (.q 8 [] (.len (.t 7))) (.c (.e (some 9) [] (.msl 63 5 1 1 [(.int .u8 0)] (.t 8) (.t 8))) (.c (.q 5 [] (.mv (.t 9))) .nil))))) t75_8)
def t75_9 := b75_9
theorem u75_9 : vcK P t75_9 k e w = vcK P b75_9 k e w := rfl
abbrev b75_0 : X := (.seq (.reg [0, 1] (.c (.q 4 [] (.mv (.s []))) .nil)) t75_9)
def x_itimes := b75_0
theorem u75_0 : vcK P x_itimes k e w = vcK P b75_0 k e w := rfl
def r_itimes : List XO := [(.mv (.t 4))]
theorem c_itimes : convF Try.prog [89, 116, 117, 121, 143, 161, 162, 163, 166, 168, 234] Try.f75 [([0, 1], []), ([0, 1, 5], []), ([0, 1, 5, 11, 12], []), ([12], [0, 1, 5, 11]), ([0, 1, 5, 11, 12, 13], []), ([0, 1, 5, 6, 11, 12], []), ([0, 1, 5, 11, 12], []), ([0, 1, 5, 11, 12], []), ([4], [])] = some (x_itimes, r_itimes) := by kernel_rfl
def us_itimes := aI @u75_0 (aI @u75_1 (aI @u75_2 (aI @u75_3 (aI @u75_4 (aI @u75_5 (aI @u75_6 (aI @u75_7 (aI @u75_8 @u75_9))))))))
abbrev b187_1 : X := (.seq (.reg [4] (.c (.q 5 [] (.mv (.t 0))) (.c (.q 6 [] (.mv (.t 0))) (.c (.q 7 [] (.len (.t 6))) (.c (.q 8 [] (.mv (.t 1))) (.c (.e (some 9) [] (.call false 204 [(.t 7), (.t 8)])) (.c (.e (some 10) [] (.call false 75 [(.t 5), (.t 9)])) (.c (.q 4 [] (.mv (.t 10))) .nil)))))))) .ret)
def t187_1 := b187_1
theorem u187_1 : vcK P t187_1 k e w = vcK P b187_1 k e w := rfl
abbrev b187_0 : X := (.seq (.reg [0, 1] (.c (.q 4 [] (.mv (.s []))) .nil)) t187_1)
def x_iapply := b187_0
theorem u187_0 : vcK P x_iapply k e w = vcK P b187_0 k e w := rfl
def r_iapply : List XO := [(.mv (.t 4))]
theorem c_iapply : convF Try.prog [89, 116, 117, 121, 143, 161, 162, 163, 166, 168, 234] Try.f187 [([0, 1], []), ([4], [])] = some (x_iapply, r_iapply) := by kernel_rfl
def us_iapply := aI @u187_0 @u187_1
abbrev b207_1 : X := (.cond (.t 9) .skip (.exit 0))
def t207_1 := b207_1
theorem u207_1 : vcK P t207_1 k e w = vcK P b207_1 k e w := rfl
abbrev b207_2 : X := (.cond (.t 18) (.seq (.reg [4] (.c (.q 4 [] (.mv (.c (.bool true)))) .nil)) .ret) .skip)
def t207_2 := b207_2
theorem u207_2 : vcK P t207_2 k e w = vcK P b207_2 k e w := rfl
abbrev b207_3 : X := (.reg [0, 1, 5] (.c (.q 10 [] (.mv (.t 5))) (.c (.q 11 [] (.bin .add (.t 10) (.c (.int .i64 1)))) (.c (.q 5 [] (.mv (.t 11))) .nil))))
def t207_3 := b207_3
theorem u207_3 : vcK P t207_3 k e w = vcK P b207_3 k e w := rfl
abbrev b207_4 : X := (.seq (.blk 1 (.seq (.reg [0, 1, 5, 18] (.c (.q 12 [] (.mv (.t 0))) (.c (.q 13 [] (.mv (.t 5))) (.c (.q 14 [] (.idx (.t 12) (.t 13))) (.c (.q 15 [] (.cvi .i64 (.t 14))) (.c (.q 16 [] (.bin .sub (.t 15) (.c (.int .i64 48)))) (.c (.q 17 [] (.mv (.t 1))) (.c (.q 18 [] (.bin .eql (.t 16) (.t 17))) .nil)))))))) t207_2)) t207_3)
def t207_4 := b207_4
theorem u207_4 : vcK P t207_4 k e w = vcK P b207_4 k e w := rfl
abbrev b207_5 : X := (.seq (.seq (.reg [0, 1, 5, 9] (.c (.q 6 [] (.mv (.t 5))) (.c (.q 7 [] (.mv (.t 0))) (.c (.q 8 [] (.len (.t 7))) (.c (.q 9 [] (.bin .lss (.t 6) (.t 8))) .nil))))) t207_1) t207_4)
def t207_5 := b207_5
theorem u207_5 : vcK P t207_5 k e w = vcK P b207_5 k e w := rfl
abbrev b207_6 : X := (.blk 0 (.loop [5] [0, 1] t207_5))
def t207_6 := b207_6
theorem u207_6 : vcK P t207_6 k e w = vcK P b207_6 k e w := rfl
abbrev b207_7 : X := (.seq (.reg [4] (.c (.q 4 [] (.mv (.c (.bool false)))) .nil)) .ret)
def t207_7 := b207_7
theorem u207_7 : vcK P t207_7 k e w = vcK P b207_7 k e w := rfl
abbrev b207_8 : X := (.seq (.seq (.reg [0, 1, 5] (.c (.q 5 [] (.mv (.c (.int .i64 0)))) .nil)) t207_6) t207_7)
def t207_8 := b207_8
theorem u207_8 : vcK P t207_8 k e w = vcK P b207_8 k e w := rfl
abbrev b207_0 : X := (.seq (.reg [0, 1] (.c (.q 4 [] (.mv (.c (.bool false)))) .nil)) t207_8)
def x_sl2Stays := b207_0
theorem u207_0 : vcK P x_sl2Stays k e w = vcK P b207_0 k e w := rfl
def r_sl2Stays : List XO := [(.mv (.t 4))]
theorem c_sl2Stays : convF Try.prog [89, 116, 117, 121, 143, 161, 162, 163, 166, 168, 234] Try.f207 [([0, 1], []), ([0, 1, 5], []), ([5], [0, 1]), ([0, 1, 5, 9], []), ([0, 1, 5, 18], []), ([4], []), ([0, 1, 5], []), ([4], [])] = some (x_sl2Stays, r_sl2Stays) := by kernel_rfl
def us_sl2Stays := aI @u207_0 (aI @u207_1 (aI @u207_2 (aI @u207_3 (aI @u207_4 (aI @u207_5 (aI @u207_6 (aI @u207_7 @u207_8)))))))
abbrev b192_1 : X := (.cond (.t 12) .skip (.exit 0))
def t192_1 := b192_1
theorem u192_1 : vcK P t192_1 k e w = vcK P b192_1 k e w := rfl
abbrev b192_2 : X := (.reg [0, 1, 5, 6] (.c (.q 32 [] (.mv (.t 6))) (.c (.q 33 [] (.bin .add (.t 32) (.c (.int .i64 1)))) (.c (.q 6 [] (.mv (.t 33))) .nil))))
def t192_2 := b192_2
theorem u192_2 : vcK P t192_2 k e w = vcK P b192_2 k e w := rfl
abbrev b192_3 : X := (.seq (.reg [0, 1, 5, 6] (.c (.q 26 [] (.mv (.t 5))) (.c (.q 27 [] (.mv (.t 6))) (.c (.q 28 [] (.mv (.t 6))) (.c (.q 29 [] (.bin .add (.c (.int .i64 48)) (.t 28))) (.c (.q 30 [] (.cvi .u8 (.t 29))) (.c (.q 31 [] (.ia 1 (.t 26) (.t 27))) (.c (.e none [] (.st 1 (.t 31) (.t 30))) .nil)))))))) t192_2)
def t192_3 := b192_3
theorem u192_3 : vcK P t192_3 k e w = vcK P b192_3 k e w := rfl
abbrev b192_4 : X := (.cond (.t 18) (.seq (.reg [0, 1, 5, 6] (.c (.q 19 [] (.mv (.t 5))) (.c (.q 20 [] (.mv (.t 6))) (.c (.q 21 [] (.bin .sub (.t 20) (.c (.int .i64 1)))) (.c (.q 22 [] (.mv (.t 6))) (.c (.q 23 [] (.bin .add (.c (.int .i64 49)) (.t 22))) (.c (.q 24 [] (.cvi .u8 (.t 23))) (.c (.q 25 [] (.ia 1 (.t 19) (.t 21))) (.c (.e none [] (.st 1 (.t 25) (.t 24))) .nil))))))))) t192_3) .skip)
def t192_4 := b192_4
theorem u192_4 : vcK P t192_4 k e w = vcK P b192_4 k e w := rfl
abbrev b192_5 : X := (.reg [0, 1, 5, 6] (.c (.q 13 [] (.mv (.t 6))) (.c (.q 14 [] (.bin .add (.t 13) (.c (.int .i64 1)))) (.c (.q 6 [] (.mv (.t 14))) .nil))))
def t192_5 := b192_5
theorem u192_5 : vcK P t192_5 k e w = vcK P b192_5 k e w := rfl
abbrev b192_6 : X := (.seq (.blk 1 (.seq (.reg [0, 1, 5, 6, 18] (.c (.q 15 [] (.mv (.t 1))) (.c (.q 16 [] (.mv (.t 6))) (.c (.e (some 17) [] (.call false 207 [(.t 15), (.t 16)])) (.c (.q 18 [] (.not (.t 17))) .nil))))) t192_4)) t192_5)
def t192_6 := b192_6
theorem u192_6 : vcK P t192_6 k e w = vcK P b192_6 k e w := rfl
abbrev b192_7 : X := (.seq (.seq (.reg [0, 1, 5, 6, 12] (.c (.q 10 [] (.mv (.t 6))) (.c (.q 11 [] (.mv (.t 0))) (.c (.q 12 [] (.bin .lss (.t 10) (.t 11))) .nil)))) t192_1) t192_6)
def t192_7 := b192_7
theorem u192_7 : vcK P t192_7 k e w = vcK P b192_7 k e w := rfl
abbrev b192_8 : X := (.blk 0 (.loop [6] [0, 1, 5] t192_7))
def t192_8 := b192_8
theorem u192_8 : vcK P t192_8 k e w = vcK P b192_8 k e w := rfl
abbrev b192_9 : X := (.seq (.reg [4] (.c (.q 34 [] (.mv (.t 5))) (.c (.e (some 35) [] (.b2s (.t 34))) (.c (.q 4 [] (.mv (.t 35))) .nil)))) .ret)
def t192_9 := b192_9
theorem u192_9 : vcK P t192_9 k e w = vcK P b192_9 k e w := rfl
abbrev b192_10 : X := (.seq (.seq (.reg [0, 1, 5, 6] (.c (.q 6 [] (.mv (.c (.int .i64 1)))) .nil)) t192_8) t192_9)
def t192_10 := b192_10
theorem u192_10 : vcK P t192_10 k e w = vcK P b192_10 k e w := rfl
abbrev b192_11 : X := (.seq (.reg [0, 1, 5] (.c (.q 7 [] (.mv (.t 0))) (.c (.e (some 8) [] (.call false 147 [(.t 7)])) (.c (.e (some 9) [] (.s2b 5 (.t 8))) (.c (.q 5 [] (.mv (.t 9))) .nil))))) t192_10)
def t192_11 := b192_11
theorem u192_11 : vcK P t192_11 k e w = vcK P b192_11 k e w := rfl
abbrev b192_0 : X := (.seq (.reg [0, 1] (.c (.q 4 [] (.mv (.s []))) .nil)) t192_11)
def x_sl2Row := b192_0
theorem u192_0 : vcK P x_sl2Row k e w = vcK P b192_0 k e w := rfl
def r_sl2Row : List XO := [(.mv (.t 4))]
theorem c_sl2Row : convF Try.prog [89, 116, 117, 121, 143, 161, 162, 163, 166, 168, 234] Try.f192 [([0, 1], []), ([0, 1, 5], []), ([0, 1, 5, 6], []), ([6], [0, 1, 5]), ([0, 1, 5, 6, 12], []), ([0, 1, 5, 6, 18], []), ([0, 1, 5, 6], []), ([0, 1, 5, 6], []), ([0, 1, 5, 6], []), ([0, 1, 5, 6], []), ([4], [])] = some (x_sl2Row, r_sl2Row) := by kernel_rfl
def us_sl2Row := aI @u192_0 (aI @u192_1 (aI @u192_2 (aI @u192_3 (aI @u192_4 (aI @u192_5 (aI @u192_6 (aI @u192_7 (aI @u192_8 (aI @u192_9 (aI @u192_10 @u192_11))))))))))
abbrev b138_1 : X := (.seq (.reg [4] (.c (.q 5 [] (.mv (.t 0))) (.c (.q 6 [] (.mv (.t 1))) (.c (.q 7 [] (.bin .sub (.t 6) (.c (.int .i64 1)))) (.c (.q 8 [] (.idx (.t 5) (.t 7))) (.c (.q 9 [] (.bin .sub (.t 8) (.c (.int .u8 48)))) (.c (.q 10 [] (.cvi .i64 (.t 9))) (.c (.q 4 [] (.mv (.t 10))) .nil)))))))) .ret)
def t138_1 := b138_1
theorem u138_1 : vcK P t138_1 k e w = vcK P b138_1 k e w := rfl
abbrev b138_0 : X := (.seq (.reg [0, 1] (.c (.q 4 [] (.mv (.c (.int .i64 0)))) .nil)) t138_1)
def x_sl1At := b138_0
theorem u138_0 : vcK P x_sl1At k e w = vcK P b138_0 k e w := rfl
def r_sl1At : List XO := [(.mv (.t 4))]
theorem c_sl1At : convF Try.prog [89, 116, 117, 121, 143, 161, 162, 163, 166, 168, 234] Try.f138 [([0, 1], []), ([4], [])] = some (x_sl1At, r_sl1At) := by kernel_rfl
def us_sl1At := aI @u138_0 @u138_1
abbrev b82_1 : X := (.cond (.t 11) .skip (.exit 0))
def t82_1 := b82_1
theorem u82_1 : vcK P t82_1 k e w = vcK P b82_1 k e w := rfl
abbrev b82_2 : X := (.reg [0, 1, 5, 6] (.c (.q 17 [] (.mv (.t 5))) (.c (.q 18 [] (.mv (.t 0))) (.c (.q 19 [] (.mv (.t 7))) (.c (.q 20 [] (.bin .sub (.t 19) (.c (.int .i64 1)))) (.c (.q 21 [] (.mv (.t 7))) (.c (.q 22 [] (.sub (.t 18) (some (.t 20)) (some (.t 21)))) (.c (.q 23 [] (.bin .add (.t 17) (.t 22))) (.c (.q 5 [] (.mv (.t 23))) .nil)))))))))
def t82_2 := b82_2
theorem u82_2 : vcK P t82_2 k e w = vcK P b82_2 k e w := rfl
abbrev b82_3 : X := (.reg [0, 1, 5, 6] (.c (.q 12 [] (.mv (.t 6))) (.c (.q 13 [] (.bin .add (.t 12) (.c (.int .i64 1)))) (.c (.q 6 [] (.mv (.t 13))) .nil))))
def t82_3 := b82_3
theorem u82_3 : vcK P t82_3 k e w = vcK P b82_3 k e w := rfl
abbrev b82_4 : X := (.seq (.blk 1 (.seq (.reg [0, 1, 5, 6, 7] (.c (.q 14 [] (.mv (.t 1))) (.c (.q 15 [] (.mv (.t 6))) (.c (.e (some 16) [] (.call false 138 [(.t 14), (.t 15)])) (.c (.q 7 [] (.mv (.t 16))) .nil))))) t82_2)) t82_3)
def t82_4 := b82_4
theorem u82_4 : vcK P t82_4 k e w = vcK P b82_4 k e w := rfl
abbrev b82_5 : X := (.seq (.seq (.reg [0, 1, 5, 6, 11] (.c (.q 8 [] (.mv (.t 6))) (.c (.q 9 [] (.mv (.t 1))) (.c (.q 10 [] (.len (.t 9))) (.c (.q 11 [] (.bin .leq (.t 8) (.t 10))) .nil))))) t82_1) t82_4)
def t82_5 := b82_5
theorem u82_5 : vcK P t82_5 k e w = vcK P b82_5 k e w := rfl
abbrev b82_6 : X := (.blk 0 (.loop [5, 6] [0, 1] t82_5))
def t82_6 := b82_6
theorem u82_6 : vcK P t82_6 k e w = vcK P b82_6 k e w := rfl
abbrev b82_7 : X := (.seq (.reg [4] (.c (.q 24 [] (.mv (.t 5))) (.c (.q 4 [] (.mv (.t 24))) .nil))) .ret)
def t82_7 := b82_7
theorem u82_7 : vcK P t82_7 k e w = vcK P b82_7 k e w := rfl
abbrev b82_8 : X := (.seq (.seq (.reg [0, 1, 5, 6] (.c (.q 6 [] (.mv (.c (.int .i64 1)))) .nil)) t82_6) t82_7)
def t82_8 := b82_8
theorem u82_8 : vcK P t82_8 k e w = vcK P b82_8 k e w := rfl
abbrev b82_9 : X := (.seq (.reg [0, 1, 5] (.c (.q 5 [] (.mv (.s []))) .nil)) t82_8)
def t82_9 := b82_9
theorem u82_9 : vcK P t82_9 k e w = vcK P b82_9 k e w := rfl
abbrev b82_0 : X := (.seq (.reg [0, 1] (.c (.q 4 [] (.mv (.s []))) .nil)) t82_9)
def x_sl1Times := b82_0
theorem u82_0 : vcK P x_sl1Times k e w = vcK P b82_0 k e w := rfl
def r_sl1Times : List XO := [(.mv (.t 4))]
theorem c_sl1Times : convF Try.prog [89, 116, 117, 121, 143, 161, 162, 163, 166, 168, 234] Try.f82 [([0, 1], []), ([0, 1, 5], []), ([0, 1, 5, 6], []), ([5, 6], [0, 1]), ([0, 1, 5, 6, 11], []), ([0, 1, 5, 6, 7], []), ([0, 1, 5, 6], []), ([0, 1, 5, 6], []), ([4], [])] = some (x_sl1Times, r_sl1Times) := by kernel_rfl
def us_sl1Times := aI @u82_0 (aI @u82_1 (aI @u82_2 (aI @u82_3 (aI @u82_4 (aI @u82_5 (aI @u82_6 (aI @u82_7 (aI @u82_8 @u82_9))))))))
abbrev b173_1 : X := (.seq (.reg [4] (.c (.q 5 [] (.mv (.t 0))) (.c (.q 6 [] (.mv (.t 0))) (.c (.q 7 [] (.len (.t 6))) (.c (.q 8 [] (.mv (.t 1))) (.c (.e (some 9) [] (.call false 192 [(.t 7), (.t 8)])) (.c (.e (some 10) [] (.call false 82 [(.t 5), (.t 9)])) (.c (.q 4 [] (.mv (.t 10))) .nil)))))))) .ret)
def t173_1 := b173_1
theorem u173_1 : vcK P t173_1 k e w = vcK P b173_1 k e w := rfl
abbrev b173_0 : X := (.seq (.reg [0, 1] (.c (.q 4 [] (.mv (.s []))) .nil)) t173_1)
def x_sl2Apply := b173_0
theorem u173_0 : vcK P x_sl2Apply k e w = vcK P b173_0 k e w := rfl
def r_sl2Apply : List XO := [(.mv (.t 4))]
theorem c_sl2Apply : convF Try.prog [89, 116, 117, 121, 143, 161, 162, 163, 166, 168, 234] Try.f173 [([0, 1], []), ([4], [])] = some (x_sl2Apply, r_sl2Apply) := by kernel_rfl
def us_sl2Apply := aI @u173_0 @u173_1
end

/-- The first k bytes are digits from 1 to 8. -/
def DigUp (c : List UInt8) (k : Nat) : Prop := ∀ i < k, 49 ≤ (c.getD i 0).toNat ∧ (c.getD i 0).toNat ≤ 56
instance (c : List UInt8) (k : Nat) : Decidable (DigUp c k) := by unfold DigUp; infer_instance
theorem DigUp.succ {l : List UInt8} {k : Nat} (h : DigUp l k) (h1 : 49 ≤ (l.getD k 0).toNat ∧ (l.getD k 0).toNat ≤ 56) : DigUp l (k + 1) := fun i hi => by
  by_cases he : i = k
  · subst he; exact h1
  · exact h i (by omega)
/-- The places of a change. -/
def plsL (c : List UInt8) : List Int := c.map fun b => (b.toNat : Int) - 48
theorem plsL_len (c : List UInt8) : (plsL c).length = c.length := by simp [plsL]
theorem plsL_get (c : List UInt8) (i : Nat) (h : i < c.length) : (plsL c).getD i 0 = ((c.getD i 0).toNat : Int) - 48 := getD_map _ 0 _ _ _ h
theorem stays_mem (c : List UInt8) (p : Nat) : stays c p = true ↔ (p : Int) ∈ plsL c := by
  unfold stays plsL
  simp only [List.any_eq_true, beq_iff_eq, List.mem_map]
  constructor
  · rintro ⟨b, hb, he⟩; exact ⟨b, hb, by omega⟩
  · rintro ⟨b, hb, he⟩; exact ⟨b, hb, by omega⟩
theorem stays_dash (p : Nat) : stays [45] p = false := by
  simp [stays]; omega
theorem iplaces_ok (c : List UInt8) (hc : c.length ≤ 1048576) (w : World) : Fn 190 [S c] w (fun v w' => ∃ x, v = .tuple ⟨[x, .bool (decide (DigUp c c.length))]⟩ ∧ (DigUp c c.length → Own fI 1 3 w.heap.size w' x (plsL c))) := by
  (refine callsV_of mix Try.func190 c_iplaces ?_; simp only [↓vsd, vsn, gW, qd, qv, ev, pick, argE, zipE, ne_eq, eq_self, forall_const, implies_true, if_true, if_false, reduceIte, reduceCtorEq, Nat.reduceEqDiff, Nat.reduceAdd, Nat.reduceLT, ↓us_iplaces, r_iplaces])
  refine m_bsl (fun _ h => by cases h) ?_
  rintro b w1 hb hblk hx1 hs1
  simp only [↓vsd, vsn, gW, qd, qv, ev, pick, argE, zipE, ne_eq, eq_self, forall_const, implies_true, if_true, if_false, reduceIte, reduceCtorEq, Nat.reduceEqDiff, Nat.reduceAdd, Nat.reduceLT, ↓us_iplaces, r_iplaces]
  refine m_upto c.length (fun k vs w' => ∃ x, vs = [x, .int .i64 k] ∧ DigUp c k ∧ Own fI 1 3 w.heap.size w' x (plsL (c.take k)) ∧ Ext w w') ⟨_, rfl, fun i hi => absurd hi (Nat.not_lt_zero i), Own.empty fI_len hblk (by omega), hx1⟩ ?_
  rintro k vs w2 hk ⟨x, rfl, hup, ho, hx⟩
  by_cases hlt : k < c.length
  · have hltI : (k : Int) < c.length := by omega
    have hltJ : ¬ (c.length : Int) ≤ k := by omega
    simp only [↓vsd, vsn, gW, qd, qv, ev, pick, argE, zipE, ne_eq, eq_self, forall_const, implies_true, if_true, if_false, reduceIte, reduceCtorEq, Nat.reduceEqDiff, Nat.reduceAdd, Nat.reduceLT, ↓us_iplaces, r_iplaces, hltI, hltJ]
    refine ⟨by omega, fun _ => by omega, fun hbad => ⟨hx, .slice none 0 0, ?_⟩, fun hgood => ⟨by omega, inR_u8 (by omega), inR_i64 (by omega), m_bsl (one_el rfl) ?_⟩⟩
    · have : ¬ DigUp c c.length := fun h => by have := h k hlt; omega
      exact ⟨by simp only [this, decide_false], fun h => absurd h this⟩
    · rintro b3 w3 hb3 hblk3 hx3 hs3
      simp only [↓vsd, vsn, gW, qd, qv, ev, pick, argE, zipE, ne_eq, eq_self, forall_const, implies_true, if_true, if_false, reduceIte, reduceCtorEq, Nat.reduceEqDiff, Nat.reduceAdd, Nat.reduceLT, ↓us_iplaces, r_iplaces]
      refine m_app (ho.ext hx3) (Sq.one fI_len hblk3 rfl) fI_one (by decide) (by simp [plsL]; omega) (by decide) (Nat.le_trans hx.size hx3.size) ?_
      rintro x4 w4 ho4 hg4
      simp only [↓vsd, vsn, gW, qd, qv, ev, pick, argE, zipE, ne_eq, eq_self, forall_const, implies_true, if_true, if_false, reduceIte, reduceCtorEq, Nat.reduceEqDiff, Nat.reduceAdd, Nat.reduceLT, ↓us_iplaces, r_iplaces]
      refine ⟨inR_i64 (by omega), UpTo.next hlt ⟨_, rfl, hup.succ (by omega), ho4.to ?_, (ho.ext hx3).grown (hx.trans hx3) (Nat.le_refl _) hg4⟩⟩
      unfold plsL
      rw [take_map_succ _ 0 _ _ hlt]
  · obtain rfl : k = c.length := by omega
    have hltI : ¬ (c.length : Int) < c.length := by omega
    simp only [↓vsd, vsn, gW, qd, qv, ev, pick, argE, zipE, ne_eq, eq_self, forall_const, implies_true, if_true, if_false, reduceIte, reduceCtorEq, Nat.reduceEqDiff, Nat.reduceAdd, Nat.reduceLT, ↓us_iplaces, r_iplaces, hltI]
    exact ⟨hx, x, by simp [hup], fun _ => ho.to (by rw [List.take_length])⟩
/-- Place i of a change. -/
def pl (c : List UInt8) (i : Nat) : Nat := (c.getD i 0).toNat - 48
theorem plsL_pl {c : List UInt8} {i : Nat} (h : i < c.length) (hd : 48 ≤ (c.getD i 0).toNat) : (plsL c).getD i 0 = (pl c i : Nat) := by
  rw [plsL_get c i h, pl]; omega
theorem iarePlaces_ok (n : Nat) (c : List UInt8) (v : Value) (hn : 3 ≤ n ∧ n ≤ 8) (hc : c.length ≤ 1048576) (hd : DigUp c c.length) (w : World) (h : Sq fI 1 w v (plsL c)) : Fn 191 [.int .i64 n, v] w (fun v _ => v = .bool (decide (IsChange n c))) := by
  (refine callsV_of mix Try.func191 c_iarePlaces ?_; simp only [↓vsd, vsn, gW, qd, qv, ev, pick, argE, zipE, ne_eq, eq_self, forall_const, implies_true, if_true, if_false, reduceIte, reduceCtorEq, Nat.reduceEqDiff, Nat.reduceAdd, Nat.reduceLT, ↓us_iarePlaces, r_iarePlaces])
  by_cases h0 : c = []
  · subst h0
    have hl0 : (((0 : Nat) : Nat) : Int) = 0 := rfl
    have hz : ((0 : Int) = 0) = True := eq_true rfl
    have hno : ¬ IsChange n [] := by rintro ⟨_, h | h⟩; exact absurd h.1 (by decide); exact h.1 rfl
    have hpk : ∀ b, pickV (.bool true) (.bool true) b = .bool true := fun _ => rfl
    simp only [↓vsd, vsn, gW, qd, qv, ev, pick, argE, zipE, ne_eq, eq_self, forall_const, implies_true, if_true, if_false, reduceIte, reduceCtorEq, Nat.reduceEqDiff, Nat.reduceAdd, Nat.reduceLT, ↓us_iarePlaces, r_iarePlaces, h.facts, plsL_len, hl0, hz, hpk]
    exact ⟨Ext.refl _, by simp only [hno, decide_false]⟩
  obtain ⟨m, hm⟩ : ∃ m, c.length = m + 1 := ⟨c.length - 1, by have := List.length_pos_iff.2 h0; omega⟩
  have hI : (c.length : Int) - 1 = (m : Nat) := by omega
  have hl : 0 < (plsL c).length := by rw [plsL_len]; omega
  have hl2 : m < (plsL c).length := by rw [plsL_len]; omega
  have e0 := plsL_pl (i := 0) (by omega : 0 < c.length) (by have := hd 0 (by omega); omega)
  have em := plsL_pl (i := m) (by omega : m < c.length) (by have := hd m (by omega); omega)
  have hne : ¬ ((c.length : Int) = 0) := by omega
  simp only [↓vsd, vsn, gW, qd, qv, ev, pick, argE, zipE, ne_eq, eq_self, forall_const, implies_true, if_true, if_false, reduceIte, reduceCtorEq, Nat.reduceEqDiff, Nat.reduceAdd, Nat.reduceLT, ↓us_iarePlaces, r_iarePlaces, h.facts, plsL_len, hI, h.at0 0 hl, h.at1 0 hl2, e0, em, hne]
  have hd0 := hd 0 (by omega)
  have hdm := hd m (by omega)
  have hp0 : (c.getD 0 0).toNat = 48 + pl c 0 := by unfold pl; omega
  have hpm : (c.getD m 0).toNat = 48 + pl c m := by unfold pl; omega
  have hcm : c.length - 1 = m := by omega
  have hnd : c ≠ [45] := fun e => by have := hd 0 (by omega); rw [e] at this; revert this; decide
  refine ⟨fun _ => by omega, fun _ => by decide, fun _ => inR_i64 (by omega), fun _ => by omega, fun _ => by decide, fun _ => by decide, fun _ => inR_i64 (by omega), fun _ => by omega, fun hbad => ⟨Ext.refl _, ?_⟩, fun hgood => ?_⟩
  · have : ¬ IsChange n c := fun hh => by
      rcases hh.2 with h1 | ⟨h1, h2, h3, h4, h5⟩
      · exact hnd h1.1
      · have h6 := (h3 0 (by omega)).2
        rw [if_pos rfl] at h6
        rw [hcm] at h4 h5
        rcases hbad with ((hb | hb) | hb) | hb <;> omega
    simp only [this, decide_false]
  refine m_upto m (fun k vs w' => vs = [.int .i64 (k + 1 : Nat)] ∧ Chain c (k + 1) ∧ Ext w w') ⟨rfl, fun i hi => ?_, Ext.refl _⟩ ?_
  · obtain rfl : i = 0 := by omega
    rw [if_pos rfl]; omega
  rintro k vs w1 hk ⟨rfl, hch, hx⟩
  have hq := h.ext hx
  by_cases hlt : k + 1 < c.length
  · have hltI : ((k + 1 : Nat) : Int) < c.length := by omega
    have hltJ : ¬ (c.length : Int) ≤ ((k + 1 : Nat) : Int) := by omega
    have hk1 : ((k + 1 : Nat) : Int) - 1 = (k : Nat) := by omega
    have hla : k + 1 < (plsL c).length := by rw [plsL_len]; omega
    have hlb : k < (plsL c).length := by rw [plsL_len]; omega
    have ha := hd (k + 1) hlt
    have hb := hd k (by omega)
    have ea := plsL_pl (i := k + 1) hlt (by omega)
    have eb := plsL_pl (i := k) (by omega : k < c.length) (by omega)
    have hpa : (c.getD (k + 1) 0).toNat = 48 + pl c (k + 1) := by unfold pl; omega
    have hpb : (c.getD k 0).toNat = 48 + pl c k := by unfold pl; omega
    by_cases hgt : pl c k < pl c (k + 1)
    · have hgI : ¬ ((pl c (k + 1) : Nat) : Int) ≤ (pl c k : Nat) := by omega
      have hsub : ((pl c (k + 1) : Nat) : Int) - (pl c k : Nat) = (pl c (k + 1) - pl c k : Nat) := by omega
      simp only [↓vsd, vsn, gW, qd, qv, ev, pick, argE, zipE, ne_eq, eq_self, forall_const, implies_true, if_true, if_false, reduceIte, reduceCtorEq, Nat.reduceEqDiff, Nat.reduceAdd, Nat.reduceLT, ↓us_iarePlaces, r_iarePlaces, hltI, hltJ, hk1, hq.facts, plsL_len, hq.at1 0 hla, hq.at1 0 hlb, ea, eb, hgI, hsub]
      refine ⟨by omega, inR_i64 (by omega), by omega, by omega, inR_i64 (by omega), by omega, inR_i64 (by omega), by decide, fun hev => ⟨hx, ?_⟩, fun hodd => ⟨inR_i64 (by omega), UpTo.next (by omega) ⟨rfl, hch.succ (by omega) (by rw [if_neg (by omega), Nat.add_sub_cancel]; omega), dr hx⟩⟩⟩
      have : ¬ IsChange n c := fun hh => by
        rcases hh.2 with h1 | h1
        · exact hnd h1.1
        · have := (h1.2.2.1 (k + 1) hlt).2
          rw [if_neg (by omega), Nat.add_sub_cancel] at this
          omega
      simp only [this, decide_false]
    · have hgI : ((pl c (k + 1) : Nat) : Int) ≤ (pl c k : Nat) := by omega
      simp only [↓vsd, vsn, gW, qd, qv, ev, pick, argE, zipE, ne_eq, eq_self, forall_const, implies_true, if_true, if_false, reduceIte, reduceCtorEq, Nat.reduceEqDiff, Nat.reduceAdd, Nat.reduceLT, ↓us_iarePlaces, r_iarePlaces, hltI, hltJ, hk1, hq.facts, plsL_len, hq.at1 0 hla, hq.at1 0 hlb, ea, eb, hgI]
      refine ⟨by omega, inR_i64 (by omega), by omega, hx, ?_⟩
      have : ¬ IsChange n c := fun hh => by
        rcases hh.2 with h1 | h1
        · exact hnd h1.1
        · have := (h1.2.2.1 (k + 1) hlt).2
          rw [if_neg (by omega), Nat.add_sub_cancel] at this
          omega
      simp only [this, decide_false]
  · obtain rfl : k = m := by omega
    have hltI : ¬ ((k + 1 : Nat) : Int) < c.length := by omega
    simp only [↓vsd, vsn, gW, qd, qv, ev, pick, argE, zipE, ne_eq, eq_self, forall_const, implies_true, if_true, if_false, reduceIte, reduceCtorEq, Nat.reduceEqDiff, Nat.reduceAdd, Nat.reduceLT, ↓us_iarePlaces, r_iarePlaces, hltI, hq.facts, plsL_len]
    have : IsChange n c := ⟨by omega, .inr ⟨h0, fun e => hgood.1.1.1 e, by rw [hm]; exact hch, by rw [hcm]; omega, by rw [hcm]; omega⟩⟩
    exact ⟨hx, by simp only [this, decide_true]⟩
theorem sl2Change_ok (n : Int) (c : List UInt8) (hc : c.length ≤ 1048576) (w : World) : Fn 157 [.int .i64 n, S c] w (fun v _ => v = .bool (decide (IsChange n c))) := by
  (refine callsV_of mix Try.func157 c_sl2Change ?_; simp only [↓vsd, vsn, gW, qd, qv, ev, pick, argE, zipE, ne_eq, eq_self, forall_const, implies_true, if_true, if_false, reduceIte, reduceCtorEq, Nat.reduceEqDiff, Nat.reduceAdd, Nat.reduceLT, ↓us_sl2Change, r_sl2Change])
  refine m_call (sl1In_ok _ _ _ _) ?_
  rintro _ w1 hx1 rfl
  simp only [↓vsd, vsn, gW, qd, qv, ev, pick, argE, zipE, ne_eq, eq_self, forall_const, implies_true, if_true, if_false, reduceIte, reduceCtorEq, Nat.reduceEqDiff, Nat.reduceAdd, Nat.reduceLT, ↓us_sl2Change, r_sl2Change]
  refine ⟨fun h => inR_i64 (by omega), fun hbad => ⟨hx1, ?_⟩, fun hgood => ⟨fun hdash => ⟨by decide, hx1, ?_⟩, fun hnd => ?_⟩⟩
  · have : ¬ IsChange n c := fun h => by
      have h1 := h.1
      have h2 := h.len
      rcases hbad with (h3 | h3) | h3
      · omega
      · rw [h3] at h2; simp at h2
      · omega
    simp [this]
  · subst hdash
    rw [show n.tmod 2 = n % 2 from Int.tmod_eq_emod_of_nonneg (by omega)]
    congr 1
    refine propext ⟨fun h => ⟨hgood.1.1, .inl ⟨rfl, h⟩⟩, fun h => ?_⟩
    rcases h.2 with h | h
    · exact h.2
    · exact absurd (h.2.2.1 0 (by decide)).1 (by decide)
  · obtain ⟨n, rfl⟩ : ∃ k : Nat, n = k := ⟨n.toNat, by omega⟩
    refine m_upto c.length (fun k vs w' => ∃ last : Nat, vs = [.int .i64 last, .int .i64 k] ∧ (last = if k = 0 then 0 else pl c (k - 1)) ∧ Chain c k ∧ (∀ i < k, (c.getD i 0).toNat ≤ 48 + n) ∧ Ext w w') ⟨0, rfl, rfl, fun i hi => absurd hi (Nat.not_lt_zero i), fun i hi => absurd hi (Nat.not_lt_zero i), hx1⟩ ?_
    rintro k vs w2 hk ⟨last, rfl, hlast, hch, hle, hx⟩
    by_cases hlt : k < c.length
    · have hltI : (k : Int) < c.length := by omega
      have hltJ : ¬ (c.length : Int) ≤ k := by omega
      have hpl : last ≤ 8 ∧ (0 < k → (c.getD (k - 1) 0).toNat = 48 + last) := by
        by_cases hk0 : k = 0
        · rw [if_pos hk0] at hlast; omega
        · rw [if_neg hk0] at hlast
          have h1 := hch (k - 1) (by omega)
          have h2 := hle (k - 1) (by omega)
          unfold pl at hlast
          omega
      have hcl := (c.getD k 0).toNat_lt
      simp only [↓vsd, vsn, gW, qd, qv, ev, pick, argE, zipE, ne_eq, eq_self, forall_const, implies_true, if_true, if_false, reduceIte, reduceCtorEq, Nat.reduceEqDiff, Nat.reduceAdd, Nat.reduceLT, ↓us_sl2Change, r_sl2Change, hltI, hltJ]
      refine ⟨by omega, inR_i64 (by omega), inR_i64 (by omega), m_call (sl1In_ok _ _ _ _) ?_⟩
      rintro _ w3 hx3 rfl
      by_cases hin : (last : Int) + 1 ≤ ((c.getD k 0).toNat : Int) - 48 ∧ ((c.getD k 0).toNat : Int) - 48 ≤ n
      · have hi1 := hin.1
        have hi2 := hin.2
        have hsub : ((c.getD k 0).toNat : Int) - 48 - (last : Nat) = ((c.getD k 0).toNat - 48 - last : Nat) := by omega
        simp only [↓vsd, vsn, gW, qd, qv, ev, pick, argE, zipE, ne_eq, eq_self, forall_const, implies_true, if_true, if_false, reduceIte, reduceCtorEq, Nat.reduceEqDiff, Nat.reduceAdd, Nat.reduceLT, ↓us_sl2Change, r_sl2Change, hi1, hi2, hsub]
        have hx23 := hx.trans hx3
        refine ⟨inR_i64 (by omega), by decide, fun hev => ⟨hx23, ?_⟩, fun hodd => ⟨inR_i64 (by omega), UpTo.next hlt ⟨(c.getD k 0).toNat - 48, ?_, ?_, hch.succ (by omega) ?_, fun i hi => ?_, hx23⟩⟩⟩
        · have : ¬ IsChange n c := fun hh => by
            rcases hh.2 with h1 | h1
            · exact hnd h1.1
            · have := (h1.2.2.1 k hlt).2
              by_cases hk0 : k = 0
              · subst hk0
                rw [if_pos rfl] at this hlast
                omega
              · rw [if_neg hk0] at this
                have := hpl.2 (by omega)
                omega
          simp only [this, decide_false]
        · rw [show ((c.getD k 0).toNat : Int) - 48 = ((c.getD k 0).toNat - 48 : Nat) by omega]; rfl
        · rw [if_neg (by omega), Nat.add_sub_cancel]; rfl
        · by_cases hk0 : k = 0
          · subst hk0
            rw [if_pos rfl] at hlast ⊢
            omega
          · rw [if_neg hk0]
            have := hpl.2 (by omega)
            omega
        · by_cases he : i = k
          · subst he; omega
          · exact hle i (by omega)
      · simp only [↓vsd, vsn, gW, qd, qv, ev, pick, argE, zipE, ne_eq, eq_self, forall_const, implies_true, if_true, if_false, reduceIte, reduceCtorEq, Nat.reduceEqDiff, Nat.reduceAdd, Nat.reduceLT, ↓us_sl2Change, r_sl2Change, hin]
        have : ¬ IsChange n c := fun hh => by
          rcases hh.2 with h1 | h1
          · exact hnd h1.1
          · obtain ⟨h2, h3⟩ := h1.2.2.1 k hlt
            have h4 := h1.2.2.1.mono k (c.length - 1) (by omega) (by omega)
            have h5 := h1.2.2.2.2
            by_cases hk0 : k = 0
            · subst hk0
              rw [if_pos rfl] at hlast
              omega
            · rw [if_neg hk0] at h3
              have := hpl.2 (by omega)
              omega
        exact fun _ => ⟨hx.trans hx3, by simp only [this, decide_false]⟩
    · obtain rfl : k = c.length := by omega
      have hltI : ¬ (c.length : Int) < c.length := by omega
      simp only [↓vsd, vsn, gW, qd, qv, ev, pick, argE, zipE, ne_eq, eq_self, forall_const, implies_true, if_true, if_false, reduceIte, reduceCtorEq, Nat.reduceEqDiff, Nat.reduceAdd, Nat.reduceLT, ↓us_sl2Change, r_sl2Change, hltI]
      have hpos : 0 < c.length := List.length_pos_iff.2 hgood.1.2
      rw [if_neg (by omega)] at hlast
      have h1 := hch (c.length - 1) (by omega)
      have h2 := hle (c.length - 1) (by omega)
      have hpl : (c.getD (c.length - 1) 0).toNat = 48 + last := by unfold pl at hlast; omega
      rw [show ((n : Int) - (last : Nat)).tmod 2 = ((n : Int) - (last : Nat)) % 2 from Int.tmod_eq_emod_of_nonneg (by omega)]
      refine ⟨inR_i64 (by omega), by decide, hx, ?_⟩
      congr 1
      refine propext ⟨fun h => ⟨hgood.1.1, .inr ⟨hgood.1.2, by omega, hch, by omega, by omega⟩⟩, fun h => ?_⟩
      rcases h.2 with h3 | h3
      · exact absurd h3.1 hnd
      · have := h3.2.2.2.1
        omega
theorem xslices_Index_int_int_ok (v : Value) (l : List Int) (x : Int) (hl : l.length ≤ 1000000000) (w : World) (h : Sq fI 1 w v l) : Fn 217 [v, .int .i64 x] w (fun r _ => ∃ i : Int, r = .int .i64 i ∧ -1 ≤ i ∧ (0 ≤ i ↔ x ∈ l)) := by
  (refine callsV_of mix Try.func217 c_xslices_Index_int_int ?_; simp only [↓vsd, vsn, gW, qd, qv, ev, pick, argE, zipE, ne_eq, eq_self, forall_const, implies_true, if_true, if_false, reduceIte, reduceCtorEq, Nat.reduceEqDiff, Nat.reduceAdd, Nat.reduceLT, ↓us_xslices_Index_int_int, r_xslices_Index_int_int])
  simp only [↓vsd, vsn, gW, qd, qv, ev, pick, argE, zipE, ne_eq, eq_self, forall_const, implies_true, if_true, if_false, reduceIte, reduceCtorEq, Nat.reduceEqDiff, Nat.reduceAdd, Nat.reduceLT, ↓us_xslices_Index_int_int, r_xslices_Index_int_int, h.facts]
  refine m_upto l.length (fun k vs w' => vs = [.int .i64 k] ∧ x ∉ l.take k ∧ Ext w w') ⟨rfl, by simp, Ext.refl _⟩ ?_
  rintro k vs w1 hk ⟨rfl, hno, hx⟩
  have hq := h.ext hx
  by_cases hlt : k < l.length
  · have hltI : (k : Int) < l.length := by omega
    have hltJ : ¬ (l.length : Int) ≤ k := by omega
    simp only [↓vsd, vsn, gW, qd, qv, ev, pick, argE, zipE, ne_eq, eq_self, forall_const, implies_true, if_true, if_false, reduceIte, reduceCtorEq, Nat.reduceEqDiff, Nat.reduceAdd, Nat.reduceLT, ↓us_xslices_Index_int_int, r_xslices_Index_int_int, hltI, hltJ, hq.facts, hq.at1 0 hlt]
    refine ⟨by omega, fun he => ⟨hx, k, rfl, by omega, ⟨fun _ => by rw [he]; exact getD_mem 0 hlt, fun _ => by omega⟩⟩, fun hne => ⟨inR_i64 (by omega), UpTo.next hlt ⟨rfl, fun hm => ?_, hx⟩⟩⟩
    rcases mem_take (d := 0) hlt hm with h1 | h1
    · exact hno h1
    · exact hne h1
  · obtain rfl : k = l.length := by omega
    have hltI : ¬ (l.length : Int) < l.length := by omega
    simp only [↓vsd, vsn, gW, qd, qv, ev, pick, argE, zipE, ne_eq, eq_self, forall_const, implies_true, if_true, if_false, reduceIte, reduceCtorEq, Nat.reduceEqDiff, Nat.reduceAdd, Nat.reduceLT, ↓us_xslices_Index_int_int, r_xslices_Index_int_int, hltI]
    rw [List.take_length] at hno
    exact ⟨hx, -1, rfl, by omega, by simp [hno]⟩
theorem xslices_Contains_int_int_ok (v : Value) (l : List Int) (x : Int) (hl : l.length ≤ 1000000000) (w : World) (h : Sq fI 1 w v l) : Fn 216 [v, .int .i64 x] w (fun r _ => r = .bool (decide (x ∈ l))) := by
  (refine callsV_of mix Try.func216 c_xslices_Contains_int_int ?_; simp only [↓vsd, vsn, gW, qd, qv, ev, pick, argE, zipE, ne_eq, eq_self, forall_const, implies_true, if_true, if_false, reduceIte, reduceCtorEq, Nat.reduceEqDiff, Nat.reduceAdd, Nat.reduceLT, ↓us_xslices_Contains_int_int, r_xslices_Contains_int_int])
  refine m_call (xslices_Index_int_int_ok v l x hl _ h) ?_
  rintro _ w1 hx1 ⟨i, rfl, hi, hm⟩
  simp only [↓vsd, vsn, gW, qd, qv, ev, pick, argE, zipE, ne_eq, eq_self, forall_const, implies_true, if_true, if_false, reduceIte, reduceCtorEq, Nat.reduceEqDiff, Nat.reduceAdd, Nat.reduceLT, ↓us_xslices_Contains_int_int, r_xslices_Contains_int_int]
  exact ⟨hx1, by simp only [hm]⟩
theorem times_set {a b : List UInt8} {k : Nat} (h : k < b.length) : ((timesL a b).take k ++ List.replicate (b.length - k) 0).set k (a.getD (bell b k) 0) = (timesL a b).take (k + 1) ++ List.replicate (b.length - (k + 1)) 0 := by
  have := fill_set (timesL a b) 0 k (by rw [timesL_len]; exact h)
  rw [timesL_len, timesL_get a b k h] at this
  exact this
theorem itimes_ok (a b : List UInt8) (hb : IsRow b) (hab : a.length = b.length) (w : World) : Fn 75 [S a, S b] w (fun r _ => r = S (timesL a b)) := by
  (refine callsV_of mix Try.func75 c_itimes ?_; simp only [↓vsd, vsn, gW, qd, qv, ev, pick, argE, zipE, ne_eq, eq_self, forall_const, implies_true, if_true, if_false, reduceIte, reduceCtorEq, Nat.reduceEqDiff, Nat.reduceAdd, Nat.reduceLT, ↓us_itimes, r_itimes])
  have h8 := hb.1
  refine m_msl (f := fU) (B := w.heap.size) (0 : UInt8) fU_len rfl (by omega) (by decide) (Nat.le_refl _) ?_
  rintro vo w1 ho1 _ hx1
  simp only [↓vsd, vsn, gW, qd, qv, ev, pick, argE, zipE, ne_eq, eq_self, forall_const, implies_true, if_true, if_false, reduceIte, reduceCtorEq, Nat.reduceEqDiff, Nat.reduceAdd, Nat.reduceLT, ↓us_itimes, r_itimes, ho1.sq.facts]
  rw [List.length_replicate]
  refine m_upto b.length (fun k vs w' => vs = [.int .i64 k] ∧ Own fU 1 5 w.heap.size w' vo ((timesL a b).take k ++ List.replicate (b.length - k) 0) ∧ Ext w w') ⟨rfl, by simpa using ho1, hx1⟩ ?_
  rintro k vs w2 hk ⟨rfl, ho, hx⟩
  by_cases hlt : k < b.length
  · have hltI : (k : Int) < b.length := by omega
    have hltJ : ¬ (b.length : Int) ≤ k := by omega
    have hlen : ((timesL a b).take k ++ List.replicate (b.length - k) 0).length = b.length := by simp [timesL_len]; omega
    have hlow := hb.low hlt
    have hhigh := hb.high hlt
    have hbe : ((b.getD k 0).toNat : Int) - 49 = (bell b k : Nat) := by unfold bell; omega
    have hbl := hb.bell_lt hlt
    simp only [↓vsd, vsn, gW, qd, qv, ev, pick, argE, zipE, ne_eq, eq_self, forall_const, implies_true, if_true, if_false, reduceIte, reduceCtorEq, Nat.reduceEqDiff, Nat.reduceAdd, Nat.reduceLT, ↓us_itimes, r_itimes, hltI, hltJ, ho.sq.facts, hlen, hbe]
    refine ⟨by omega, inR_u8 (by omega), by omega, by omega, m_set1 k (a.getD (bell b k) 0) ho rfl (by omega) rfl fU_one ?_⟩
    rintro w3 ho3 hg3 hs3
    simp only [↓vsd, vsn, gW, qd, qv, ev, pick, argE, zipE, ne_eq, eq_self, forall_const, implies_true, if_true, if_false, reduceIte, reduceCtorEq, Nat.reduceEqDiff, Nat.reduceAdd, Nat.reduceLT, ↓us_itimes, r_itimes]
    exact ⟨inR_i64 (by omega), UpTo.next hlt ⟨rfl, ho3.to (times_set hlt), ho.grown hx (Nat.le_refl _) hg3⟩⟩
  · obtain rfl : k = b.length := by omega
    have hltI : ¬ (b.length : Int) < b.length := by omega
    simp only [↓vsd, vsn, gW, qd, qv, ev, pick, argE, zipE, ne_eq, eq_self, forall_const, implies_true, if_true, if_false, reduceIte, reduceCtorEq, Nat.reduceEqDiff, Nat.reduceAdd, Nat.reduceLT, ↓us_itimes, r_itimes, hltI]
    refine m_b2s ho.sq ?_
    simp only [↓vsd, vsn, gW, qd, qv, ev, pick, argE, zipE, ne_eq, eq_self, forall_const, implies_true, if_true, if_false, reduceIte, reduceCtorEq, Nat.reduceEqDiff, Nat.reduceAdd, Nat.reduceLT, ↓us_itimes, r_itimes]
    exact ⟨hx, by simp [timesL_len, List.take_of_length_le]⟩
theorem sl1At_ok (r : List UInt8) (p : Nat) (hp : 1 ≤ p ∧ p ≤ r.length) (hr : 48 ≤ (r.getD (p - 1) 0).toNat) (hl : r.length ≤ 1048576) (w : World) : Fn 138 [S r, .int .i64 p] w (fun v _ => v = .int .i64 (((r.getD (p - 1) 0).toNat : Int) - 48)) := by
  (refine callsV_of mix Try.func138 c_sl1At ?_; simp only [↓vsd, vsn, gW, qd, qv, ev, pick, argE, zipE, ne_eq, eq_self, forall_const, implies_true, if_true, if_false, reduceIte, reduceCtorEq, Nat.reduceEqDiff, Nat.reduceAdd, Nat.reduceLT, ↓us_sl1At, r_sl1At])
  have := (r.getD (p - 1) 0).toNat_lt
  exact ⟨inR_i64 (by omega), by omega, inR_u8 (by omega), inR_i64 (by omega), Ext.refl _⟩
theorem sl1Times_ok (a b : List UInt8) (hb : IsRow b) (hab : a.length = b.length) (w : World) : Fn 82 [S a, S b] w (fun r _ => r = S (timesL a b)) := by
  (refine callsV_of mix Try.func82 c_sl1Times ?_; simp only [↓vsd, vsn, gW, qd, qv, ev, pick, argE, zipE, ne_eq, eq_self, forall_const, implies_true, if_true, if_false, reduceIte, reduceCtorEq, Nat.reduceEqDiff, Nat.reduceAdd, Nat.reduceLT, ↓us_sl1Times, r_sl1Times])
  have h8 := hb.1
  refine m_upto b.length (fun k vs w' => vs = [S ((timesL a b).take k), .int .i64 (k + 1 : Nat)] ∧ Ext w w') ⟨rfl, Ext.refl _⟩ ?_
  rintro k vs w2 hk ⟨rfl, hx⟩
  simp only [↓vsd, vsn, gW, qd, qv, ev, pick, argE, zipE, ne_eq, eq_self, forall_const, implies_true, if_true, if_false, reduceIte, reduceCtorEq, Nat.reduceEqDiff, Nat.reduceAdd, Nat.reduceLT, ↓us_sl1Times, r_sl1Times]
  refine ⟨fun hle => m_call (sl1At_ok b (k + 1) (by omega) (by have := hb.low (show k + 1 - 1 < b.length by omega); omega) (by omega) _) ?_, fun hgt => ⟨hx, ?_⟩⟩
  · rintro _ w3 hx3 rfl
    rw [Nat.add_sub_cancel]
    have hlt : k < b.length := by omega
    have hlow := hb.low hlt
    have hhigh := hb.high hlt
    have hbe : ((b.getD k 0).toNat : Int) - 48 = (bell b k + 1 : Nat) := by unfold bell; omega
    have hbl := hb.bell_lt hlt
    rw [hbe]
    simp only [↓vsd, vsn, gW, qd, qv, ev, pick, argE, zipE, ne_eq, eq_self, forall_const, implies_true, if_true, if_false, reduceIte, reduceCtorEq, Nat.reduceEqDiff, Nat.reduceAdd, Nat.reduceLT, ↓us_sl1Times, r_sl1Times]
    rw [Nat.add_sub_cancel, sub_one a (bell b k) (by omega)]
    refine ⟨inR_i64 (by omega), by omega, by simp; omega, inR_i64 (by omega), UpTo.next hlt ⟨?_, hx.trans hx3⟩⟩
    rw [List.take_add_one, List.getElem?_eq_getElem (by rw [timesL_len]; exact hlt), ← timesL_get a b k hlt, List.getD_eq_getElem?_getD, List.getElem?_eq_getElem (by rw [timesL_len]; exact hlt)]
    rfl
  · rw [List.take_of_length_le (by rw [timesL_len]; omega)]
theorem sl2Stays_ok (c : List UInt8) (p : Nat) (hc : c.length ≤ 1048576) (hp : p ≤ 1048576) (w : World) : Fn 207 [S c, .int .i64 p] w (fun r _ => r = .bool (stays c p)) := by
  (refine callsV_of mix Try.func207 c_sl2Stays ?_; simp only [↓vsd, vsn, gW, qd, qv, ev, pick, argE, zipE, ne_eq, eq_self, forall_const, implies_true, if_true, if_false, reduceIte, reduceCtorEq, Nat.reduceEqDiff, Nat.reduceAdd, Nat.reduceLT, ↓us_sl2Stays, r_sl2Stays])
  refine m_upto c.length (fun k vs w' => vs = [.int .i64 k] ∧ stays (c.take k) p = false ∧ Ext w w') ⟨rfl, by simp [stays], Ext.refl _⟩ ?_
  rintro k vs w2 hk ⟨rfl, hno, hx⟩
  have hcl := (c.getD k 0).toNat_lt
  simp only [↓vsd, vsn, gW, qd, qv, ev, pick, argE, zipE, ne_eq, eq_self, forall_const, implies_true, if_true, if_false, reduceIte, reduceCtorEq, Nat.reduceEqDiff, Nat.reduceAdd, Nat.reduceLT, ↓us_sl2Stays, r_sl2Stays]
  refine ⟨fun hlt => ⟨by omega, inR_i64 (by omega), fun he => ⟨hx, ?_⟩, fun hne => ⟨inR_i64 (by omega), UpTo.next (by omega) ⟨rfl, ?_, hx⟩⟩⟩, fun hge => ⟨hx, ?_⟩⟩
  · congr 1
    symm
    refine List.any_eq_true.2 ⟨c.getD k 0, getD_mem 0 (by omega), ?_⟩
    rw [beq_iff_eq]; omega
  · rw [Bool.eq_false_iff] at hno ⊢
    intro h
    obtain ⟨b, hb, he⟩ := List.any_eq_true.1 h
    rcases mem_take (d := 0) (by omega) hb with h1 | h1
    · exact hno (List.any_eq_true.2 ⟨b, h1, he⟩)
    · subst h1
      rw [beq_iff_eq] at he
      omega
  · rw [List.take_of_length_le (by omega)] at hno
    rw [hno]
theorem IsChange.dig {n : Int} {c : List UInt8} (h : IsChange n c) : c = [45] ∨ DigUp c c.length := by
  rcases h.2 with h1 | ⟨h1, h2, h3, h4, h5⟩
  · exact .inl h1.1
  · refine .inr fun i hi => ?_
    have := h3.mono i (c.length - 1) (by omega) (by omega)
    have := (h3 i hi).1
    have := h.1
    omega
theorem iGoodChange_ok (n : Int) (c : List UInt8) (hc : c.length ≤ 1048576) (w : World) : Fn 172 [.int .i64 n, S c] w (fun v _ => v = .bool (decide (IsChange n c))) := by
  (refine callsV_of mix Try.func172 c_iGoodChange ?_; simp only [↓vsd, vsn, gW, qd, qv, ev, pick, argE, zipE, ne_eq, eq_self, forall_const, implies_true, if_true, if_false, reduceIte, reduceCtorEq, Nat.reduceEqDiff, Nat.reduceAdd, Nat.reduceLT, ↓us_iGoodChange, r_iGoodChange])
  refine m_call (iisStage_ok _ _) ?_
  rintro _ w1 hx1 rfl
  simp only [↓vsd, vsn, gW, qd, qv, ev, pick, argE, zipE, ne_eq, eq_self, forall_const, implies_true, if_true, if_false, reduceIte, reduceCtorEq, Nat.reduceEqDiff, Nat.reduceAdd, Nat.reduceLT, ↓us_iGoodChange, r_iGoodChange]
  refine ⟨fun hbad => ⟨hx1, ?_⟩, fun hgood => ⟨fun hdash => ⟨by decide, hx1, ?_⟩, fun hnd => m_call (iplaces_ok c hc _) ?_⟩⟩
  · have : ¬ IsChange n c := fun h => by have := h.1; omega
    simp only [this, decide_false]
  · subst hdash
    rw [show n.tmod 2 = n % 2 from Int.tmod_eq_emod_of_nonneg (by omega)]
    congr 1
    refine propext ⟨fun h => ⟨hgood, .inl ⟨rfl, h⟩⟩, fun h => ?_⟩
    rcases h.2 with h | h
    · exact h.2
    · exact absurd (h.2.2.1 0 (by decide)).1 (by decide)
  · rintro _ w2 hx2 ⟨x, rfl, hox⟩
    simp only [↓vsd, vsn, gW, qd, qv, ev, pick, argE, zipE, ne_eq, eq_self, forall_const, implies_true, if_true, if_false, reduceIte, reduceCtorEq, Nat.reduceEqDiff, Nat.reduceAdd, Nat.reduceLT, ↓us_iGoodChange, r_iGoodChange]
    refine ⟨fun hd => ?_, fun hd => ⟨hx1.trans hx2, ?_⟩⟩
    · obtain ⟨n, rfl⟩ : ∃ k : Nat, n = k := ⟨n.toNat, by omega⟩
      refine m_call (iarePlaces_ok n c x (by omega) hc hd _ (hox hd).sq) ?_
      rintro _ w3 hx3 rfl
      simp only [↓vsd, vsn, gW, qd, qv, ev, pick, argE, zipE, ne_eq, eq_self, forall_const, implies_true, if_true, if_false, reduceIte, reduceCtorEq, Nat.reduceEqDiff, Nat.reduceAdd, Nat.reduceLT, ↓us_iGoodChange, r_iGoodChange]
      exact ⟨(hx1.trans hx2).trans hx3, by simp only [hd, decide_true, Bool.true_and]⟩
    · have : ¬ IsChange n c := fun h => by
        rcases h.dig with h1 | h1
        · exact hnd h1
        · exact hd h1
      simp only [this, decide_false]
theorem iplacesOf_ok (c : List UInt8) (hc : c.length ≤ 1048576) (hd : c = [45] ∨ DigUp c c.length) (w : World) : Fn 215 [S c] w (fun v w' => ∃ L, Own fI 1 3 w.heap.size w' v L ∧ L.length ≤ 1048576 ∧ ∀ p : Nat, ((p : Int) ∈ L ↔ stays c p = true)) := by
  (refine callsV_of mix Try.func215 c_iplacesOf ?_; simp only [↓vsd, vsn, gW, qd, qv, ev, pick, argE, zipE, ne_eq, eq_self, forall_const, implies_true, if_true, if_false, reduceIte, reduceCtorEq, Nat.reduceEqDiff, Nat.reduceAdd, Nat.reduceLT, ↓us_iplacesOf, r_iplacesOf])
  refine ⟨fun he => m_bsl (fun _ h => by cases h) ?_, fun hne => m_call (iplaces_ok c hc _) ?_⟩
  · rintro b w1 hb hblk hx1 hs1
    simp only [↓vsd, vsn, gW, qd, qv, ev, pick, argE, zipE, ne_eq, eq_self, forall_const, implies_true, if_true, if_false, reduceIte, reduceCtorEq, Nat.reduceEqDiff, Nat.reduceAdd, Nat.reduceLT, ↓us_iplacesOf, r_iplacesOf]
    exact ⟨hx1, [], Own.empty fI_len hblk (by omega), by decide, fun p => by rw [he, stays_dash]; simp⟩
  · rintro _ w1 hx1 ⟨x, rfl, hox⟩
    simp only [↓vsd, vsn, gW, qd, qv, ev, pick, argE, zipE, ne_eq, eq_self, forall_const, implies_true, if_true, if_false, reduceIte, reduceCtorEq, Nat.reduceEqDiff, Nat.reduceAdd, Nat.reduceLT, ↓us_iplacesOf, r_iplacesOf]
    have hd := hd.resolve_left hne
    exact ⟨hx1, plsL c, hox hd, by rw [plsL_len]; exact hc, fun p => (stays_mem c p).symm⟩
theorem iswapsOf_ok (n : Nat) (c : List UInt8) (hn : n ≤ 8) (hc : c.length ≤ 1048576) (hd : c = [45] ∨ DigUp c c.length) (w : World) : Fn 213 [.int .i64 n, S c] w (fun v w' => Own fI 1 3 w.heap.size w' v (List.map (fun p : Nat => (p : Int)) (swapsL c n 1))) := by
  (refine callsV_of mix Try.func213 c_iswapsOf ?_; simp only [↓vsd, vsn, gW, qd, qv, ev, pick, argE, zipE, ne_eq, eq_self, forall_const, implies_true, if_true, if_false, reduceIte, reduceCtorEq, Nat.reduceEqDiff, Nat.reduceAdd, Nat.reduceLT, ↓us_iswapsOf, r_iswapsOf])
  refine m_call (iplacesOf_ok c hc hd _) ?_
  rintro vs w1 hx1 ⟨L, ho1, hL, hmem⟩
  simp only [↓vsd, vsn, gW, qd, qv, ev, pick, argE, zipE, ne_eq, eq_self, forall_const, implies_true, if_true, if_false, reduceIte, reduceCtorEq, Nat.reduceEqDiff, Nat.reduceAdd, Nat.reduceLT, ↓us_iswapsOf, r_iswapsOf]
  refine m_bsl (fun _ h => by cases h) ?_
  rintro b w2 hb hblk hx2 hs2
  simp only [↓vsd, vsn, gW, qd, qv, ev, pick, argE, zipE, ne_eq, eq_self, forall_const, implies_true, if_true, if_false, reduceIte, reduceCtorEq, Nat.reduceEqDiff, Nat.reduceAdd, Nat.reduceLT, ↓us_iswapsOf, r_iswapsOf]
  have hx12 := hx1.trans hx2
  refine m_loop (fun m us w' => ∃ (x : Value) (p : Nat) (D : List Nat), m = n + 1 - p ∧ 1 ≤ p ∧ p ≤ n + 1 ∧ us = [x, .int .i64 p] ∧ D.length ≤ p ∧ D ++ swapsL c n p = swapsL c n 1 ∧ Own fI 1 3 w.heap.size w' x (List.map (fun p : Nat => (p : Int)) D) ∧ Own fI 1 3 w.heap.size w' vs L ∧ Apart x vs ∧ Ext w w') n ⟨_, 1, [], rfl, by omega, by omega, rfl, by simp, rfl, Own.empty fI_len hblk (by have := hx1.size; omega), ho1.ext hx2, Apart.of_lt ho1 (fun c hc => by simp only [Value.ownBlock, Option.some.injEq] at hc; omega), hx12⟩ ?_
  rintro m us w3 ⟨x, p, D, rfl, hp1, hpn, rfl, hD, hsw, ho, hoL, hap, hx⟩
  by_cases hlt : p < n
  · have hltI : (p : Int) < n := by omega
    have hltJ : ¬ (n : Int) ≤ p := by omega
    simp only [↓vsd, vsn, gW, qd, qv, ev, pick, argE, zipE, ne_eq, eq_self, forall_const, implies_true, if_true, if_false, reduceIte, reduceCtorEq, Nat.reduceEqDiff, Nat.reduceAdd, Nat.reduceLT, ↓us_iswapsOf, r_iswapsOf, hltI, hltJ]
    refine m_call (xslices_Contains_int_int_ok vs L p (by omega) _ hoL.sq) ?_
    rintro _ w4 hx4 rfl
    simp only [↓vsd, vsn, gW, qd, qv, ev, pick, argE, zipE, ne_eq, eq_self, forall_const, implies_true, if_true, if_false, reduceIte, reduceCtorEq, Nat.reduceEqDiff, Nat.reduceAdd, Nat.reduceLT, ↓us_iswapsOf, r_iswapsOf]
    refine ⟨fun hnm => m_bsl (one_el rfl) ?_, fun hm => ⟨inR_i64 (by omega), n + 1 - (p + 1), by omega, x, p + 1, D, rfl, by omega, by omega, ⟨rfl, rfl⟩, by omega, ?_, ho.ext hx4, hoL.ext hx4, hap, hx.trans hx4⟩⟩
    · rintro b5 w5 hb5 hblk5 hx5 hs5
      simp only [↓vsd, vsn, gW, qd, qv, ev, pick, argE, zipE, ne_eq, eq_self, forall_const, implies_true, if_true, if_false, reduceIte, reduceCtorEq, Nat.reduceEqDiff, Nat.reduceAdd, Nat.reduceLT, ↓us_iswapsOf, r_iswapsOf]
      have hx35 := hx4.trans hx5
      refine m_app2 (ho.ext hx35) (Sq.one fI_len hblk5 rfl) fI_one (by decide) (by simp; omega) (by decide) ((hx.trans hx35).size) ?_
      rintro x6 w6 ho6 hg6 hn6
      simp only [↓vsd, vsn, gW, qd, qv, ev, pick, argE, zipE, ne_eq, eq_self, forall_const, implies_true, if_true, if_false, reduceIte, reduceCtorEq, Nat.reduceEqDiff, Nat.reduceAdd, Nat.reduceLT, ↓us_iswapsOf, r_iswapsOf]
      have hx6 := (ho.ext hx35).grown (hx.trans hx35) (Nat.le_refl _) hg6
      refine ⟨inR_i64 (by omega), inR_i64 (by omega), n + 1 - (p + 2), by omega, x6, p + 2, D ++ [p], rfl, by omega, by omega, ⟨rfl, rfl⟩, by simp; omega, ?_, ho6.to (by simp), (hoL.ext hx35).keep2 hg6 hap, hap.next (hoL.ext hx35) hn6, hx6⟩
      rw [← hsw, swapsL_swap hlt (by
        rw [Bool.eq_false_iff]
        exact fun h => hnm ((hmem p).2 h)), List.append_assoc]
      rfl
    · rw [← hsw, swapsL_stay hlt ((hmem p).1 hm)]
  · have hltI : ¬ (p : Int) < n := by omega
    simp only [↓vsd, vsn, gW, qd, qv, ev, pick, argE, zipE, ne_eq, eq_self, forall_const, implies_true, if_true, if_false, reduceIte, reduceCtorEq, Nat.reduceEqDiff, Nat.reduceAdd, Nat.reduceLT, ↓us_iswapsOf, r_iswapsOf, hltI]
    exact ⟨hx, ho.to (by rw [← hsw, swapsL_end (by omega), List.append_nil])⟩
theorem swapsL_length (c : List UInt8) (n : Nat) : ∀ (m p : Nat), n - p ≤ m → (swapsL c n p).length ≤ m := by
  intro m
  induction m with
  | zero => intro p hp; rw [swapsL_end (by omega)]; exact Nat.le_refl _
  | succ m ih =>
    intro p hp
    by_cases h : p < n
    · by_cases hs : stays c p = true
      · rw [swapsL_stay h hs]
        have := ih (p + 1) (by omega)
        omega
      · rw [swapsL_swap h (by simpa using hs)]
        have := ih (p + 2) (by omega)
        simp only [List.length_cons]
        omega
    · rw [swapsL_end (by omega)]; exact Nat.zero_le _
theorem swapAll_take (l : List UInt8) (ps : List Nat) : swapAll l (ps.take ps.length) = swapAll l ps := by rw [List.take_length]
theorem ichangeRow_ok (n : Nat) (c : List UInt8) (hn : 3 ≤ n ∧ n ≤ 8) (hc : c.length ≤ 1048576) (hd : c = [45] ∨ DigUp c c.length) (w : World) : Fn 204 [.int .i64 n, S c] w (fun v _ => v = S (chgL n c)) := by
  (refine callsV_of mix Try.func204 c_ichangeRow ?_; simp only [↓vsd, vsn, gW, qd, qv, ev, pick, argE, zipE, ne_eq, eq_self, forall_const, implies_true, if_true, if_false, reduceIte, reduceCtorEq, Nat.reduceEqDiff, Nat.reduceAdd, Nat.reduceLT, ↓us_ichangeRow, r_ichangeRow])
  refine m_call (irounds_ok n (by omega) _) ?_
  rintro _ w1 hx1 rfl
  simp only [↓vsd, vsn, gW, qd, qv, ev, pick, argE, zipE, ne_eq, eq_self, forall_const, implies_true, if_true, if_false, reduceIte, reduceCtorEq, Nat.reduceEqDiff, Nat.reduceAdd, Nat.reduceLT, ↓us_ichangeRow, r_ichangeRow]
  refine m_s2bU w.heap.size (by rw [roundsL_len]; omega) hx1.size ?_
  rintro v2 w2 ho2 hx2 _
  simp only [↓vsd, vsn, gW, qd, qv, ev, pick, argE, zipE, ne_eq, eq_self, forall_const, implies_true, if_true, if_false, reduceIte, reduceCtorEq, Nat.reduceEqDiff, Nat.reduceAdd, Nat.reduceLT, ↓us_ichangeRow, r_ichangeRow]
  refine m_call (iswapsOf_ok n c (by omega) hc hd _) ?_
  rintro v3 w3 hx3 ho3
  have hx13 := (hx1.trans hx2).trans hx3
  have hmem := swapsL_mem c n n 1 (by omega)
  have hsl := swapsL_length c n n 1 (by omega)
  generalize hps : swapsL c n 1 = ps at *
  simp only [↓vsd, vsn, gW, qd, qv, ev, pick, argE, zipE, ne_eq, eq_self, forall_const, implies_true, if_true, if_false, reduceIte, reduceCtorEq, Nat.reduceEqDiff, Nat.reduceAdd, Nat.reduceLT, ↓us_ichangeRow, r_ichangeRow, ho3.sq.facts, List.length_map]
  have hap : Apart v2 v3 := Apart.symm (Apart.of_lt ho2 fun b hb => (ho3.bound b hb).1)
  refine m_upto ps.length (fun k vs w' => vs = [.int .i64 k] ∧ Own fU 1 5 w.heap.size w' v2 (swapAll (roundsL n) (ps.take k)) ∧ Own fI 1 3 w2.heap.size w' v3 (List.map (fun p : Nat => (p : Int)) ps) ∧ Ext w w') ⟨rfl, (ho2.ext hx3).to rfl, ho3, hx13⟩ ?_
  rintro k vs w4 hk ⟨rfl, ho4, hos4, hx4⟩
  have hlen : (swapAll (roundsL n) (ps.take k)).length = n := by rw [swapAll_len, roundsL_len]
  by_cases hlt : k < ps.length
  · have hltI : (k : Int) < ps.length := by omega
    have hltJ : ¬ (ps.length : Int) ≤ k := by omega
    have hp := hmem _ (getD_mem 0 hlt)
    obtain ⟨p, hpe⟩ : ∃ p, ps.getD k 0 = p + 1 := ⟨ps.getD k 0 - 1, by omega⟩
    have hlm : k < (List.map (fun p : Nat => (p : Int)) ps).length := by simpa using hlt
    have hge : (List.map (fun p : Nat => (p : Int)) ps).getD k 0 = ((p + 1 : Nat) : Int) := by rw [getD_map _ 0 _ _ _ hlt, hpe]
    have hp1 : ((p + 1 : Nat) : Int) - 1 = (p : Nat) := by omega
    have hpA : p < (swapAll (roundsL n) (ps.take k)).length := by omega
    have hpB : p + 1 < (swapAll (roundsL n) (ps.take k)).length := by omega
    have hs := swapAll_snoc (roundsL n) ps k hlt
    rw [hpe, Nat.add_sub_cancel] at hs
    simp only [↓vsd, vsn, gW, qd, qv, ev, pick, argE, zipE, ne_eq, eq_self, forall_const, implies_true, if_true, if_false, reduceIte, reduceCtorEq, Nat.reduceEqDiff, Nat.reduceAdd, Nat.reduceLT, ↓us_ichangeRow, r_ichangeRow, hltI, hltJ, hos4.sq.facts, hos4.sq.at1 0 hlm, hge, hp1, ho4.sq.facts, ho4.sq.at1 0 hpA, ho4.sq.at1 0 hpB, hlen, List.length_map]
    have hxd : Ext w4 w4.drew := dr (Ext.refl _)
    refine ⟨by omega, inR_i64 (by omega), by omega, inR_i64 (by omega), by omega, by omega, m_set1 p ((swapAll (roundsL n) (ps.take k)).getD (p + 1) 0) (ho4.ext hxd) rfl (by omega) rfl fU_one ?_⟩
    rintro w5 ho5 hg5 hs5
    have hl5 : ((swapAll (roundsL n) (ps.take k)).set p ((swapAll (roundsL n) (ps.take k)).getD (p + 1) 0)).length = n := by rw [List.length_set]; exact hlen
    simp only [↓vsd, vsn, gW, qd, qv, ev, pick, argE, zipE, ne_eq, eq_self, forall_const, implies_true, if_true, if_false, reduceIte, reduceCtorEq, Nat.reduceEqDiff, Nat.reduceAdd, Nat.reduceLT, ↓us_ichangeRow, r_ichangeRow, ho5.sq.facts, hl5]
    refine ⟨by omega, m_set1 (p + 1) ((swapAll (roundsL n) (ps.take k)).getD p 0) ho5 rfl (by rw [List.length_set]; omega) rfl fU_one ?_⟩
    rintro w6 ho6 hg6 hs6
    simp only [↓vsd, vsn, gW, qd, qv, ev, pick, argE, zipE, ne_eq, eq_self, forall_const, implies_true, if_true, if_false, reduceIte, reduceCtorEq, Nat.reduceEqDiff, Nat.reduceAdd, Nat.reduceLT, ↓us_ichangeRow, r_ichangeRow]
    have hg := grown_trans hg5 hg6
    have hos6 := (hos4.ext hxd).keep hg (fun b hb => (ho2.lt b hb))
    exact ⟨inR_i64 (by omega), UpTo.next hlt ⟨rfl, ho6.to (by rw [hs]; rfl), hos6, (ho4.ext hxd).grown (hx4.trans hxd) (Nat.le_refl _) hg⟩⟩
  · obtain rfl : k = ps.length := by omega
    have hltI : ¬ (ps.length : Int) < ps.length := by omega
    simp only [↓vsd, vsn, gW, qd, qv, ev, pick, argE, zipE, ne_eq, eq_self, forall_const, implies_true, if_true, if_false, reduceIte, reduceCtorEq, Nat.reduceEqDiff, Nat.reduceAdd, Nat.reduceLT, ↓us_ichangeRow, r_ichangeRow, hltI]
    refine m_b2s ho4.sq ?_
    simp only [↓vsd, vsn, gW, qd, qv, ev, pick, argE, zipE, ne_eq, eq_self, forall_const, implies_true, if_true, if_false, reduceIte, reduceCtorEq, Nat.reduceEqDiff, Nat.reduceAdd, Nat.reduceLT, ↓us_ichangeRow, r_ichangeRow]
    exact ⟨hx4, by rw [swapAll_take, ← hps]; rfl⟩
theorem sl2Row_ok (n : Nat) (c : List UInt8) (hn : 3 ≤ n ∧ n ≤ 8) (hc : c.length ≤ 1048576) (w : World) : Fn 192 [.int .i64 n, S c] w (fun v _ => v = S (chgL n c)) := by
  (refine callsV_of mix Try.func192 c_sl2Row ?_; simp only [↓vsd, vsn, gW, qd, qv, ev, pick, argE, zipE, ne_eq, eq_self, forall_const, implies_true, if_true, if_false, reduceIte, reduceCtorEq, Nat.reduceEqDiff, Nat.reduceAdd, Nat.reduceLT, ↓us_sl2Row, r_sl2Row])
  refine m_call (sl1Rounds_ok n (by omega) _) ?_
  rintro _ w1 hx1 rfl
  simp only [↓vsd, vsn, gW, qd, qv, ev, pick, argE, zipE, ne_eq, eq_self, forall_const, implies_true, if_true, if_false, reduceIte, reduceCtorEq, Nat.reduceEqDiff, Nat.reduceAdd, Nat.reduceLT, ↓us_sl2Row, r_sl2Row]
  refine m_s2bU w.heap.size (by rw [roundsL_len]; omega) hx1.size ?_
  rintro v2 w2 ho2 hx2 _
  simp only [↓vsd, vsn, gW, qd, qv, ev, pick, argE, zipE, ne_eq, eq_self, forall_const, implies_true, if_true, if_false, reduceIte, reduceCtorEq, Nat.reduceEqDiff, Nat.reduceAdd, Nat.reduceLT, ↓us_sl2Row, r_sl2Row]
  refine m_loop (fun m us w' => ∃ (p : Nat) (l : List UInt8), m = n + 1 - p ∧ 1 ≤ p ∧ p ≤ n + 1 ∧ us = [.int .i64 p] ∧ l.length = n ∧ (∀ j, p ≤ j + 1 → j < n → l.getD j 0 = UInt8.ofNat (49 + j)) ∧ swapAll l (swapsL c n p) = chgL n c ∧ Own fU 1 5 w.heap.size w' v2 l ∧ Ext w w') n ⟨1, roundsL n, rfl, by omega, by omega, rfl, roundsL_len n, fun j _ hj => roundsL_get n j hj, rfl, ho2, hx1.trans hx2⟩ ?_
  rintro m us w3 ⟨p, l, rfl, hp1, hpn, rfl, hl, hget, hsw, ho, hx⟩
  by_cases hlt : p < n
  · have hltI : (p : Int) < n := by omega
    have hltJ : ¬ (n : Int) ≤ p := by omega
    simp only [↓vsd, vsn, gW, qd, qv, ev, pick, argE, zipE, ne_eq, eq_self, forall_const, implies_true, if_true, if_false, reduceIte, reduceCtorEq, Nat.reduceEqDiff, Nat.reduceAdd, Nat.reduceLT, ↓us_sl2Row, r_sl2Row, hltI, hltJ]
    refine m_call (sl2Stays_ok c p hc (by omega) _) ?_
    rintro _ w4 hx4 rfl
    obtain ⟨q, rfl⟩ : ∃ q, p = q + 1 := ⟨p - 1, by omega⟩
    have hq1 : ((q + 1 : Nat) : Int) - 1 = (q : Nat) := by omega
    have hoA := ho.ext hx4
    simp only [↓vsd, vsn, gW, qd, qv, ev, pick, argE, zipE, ne_eq, eq_self, forall_const, implies_true, if_true, if_false, reduceIte, reduceCtorEq, Nat.reduceEqDiff, Nat.reduceAdd, Nat.reduceLT, ↓us_sl2Row, r_sl2Row, hq1, hoA.sq.facts, hl]
    have hgq := hget q (by omega) (by omega)
    have hgq1 := hget (q + 1) (by omega) (by omega)
    refine ⟨fun hst => ⟨inR_i64 (by omega), inR_i64 (by omega), inR_u8 (by omega), by omega, m_set1 q (UInt8.ofNat (49 + (q + 1))) hoA rfl (by omega) (by simp [fU, UInt8.toNat_ofNat', cells_int]; omega) fU_one ?_⟩, fun hst => ⟨inR_i64 (by omega), n + 1 - (q + 1 + 1), by omega, q + 1 + 1, l, rfl, by omega, by omega, rfl, hl, fun j hj hjn => hget j (by omega) hjn, ?_, hoA, hx.trans hx4⟩⟩
    · rintro w5 ho5 hg5 hs5
      have hl5 : (l.set q (UInt8.ofNat (49 + (q + 1)))).length = n := by rw [List.length_set]; exact hl
      simp only [↓vsd, vsn, gW, qd, qv, ev, pick, argE, zipE, ne_eq, eq_self, forall_const, implies_true, if_true, if_false, reduceIte, reduceCtorEq, Nat.reduceEqDiff, Nat.reduceAdd, Nat.reduceLT, ↓us_sl2Row, r_sl2Row, ho5.sq.facts, hl5]
      refine ⟨inR_i64 (by omega), inR_u8 (by omega), by omega, m_set1 (q + 1) (UInt8.ofNat (49 + q)) ho5 rfl (by omega) (by simp [fU, UInt8.toNat_ofNat', cells_int]; omega) fU_one ?_⟩
      rintro w6 ho6 hg6 hs6
      simp only [↓vsd, vsn, gW, qd, qv, ev, pick, argE, zipE, ne_eq, eq_self, forall_const, implies_true, if_true, if_false, reduceIte, reduceCtorEq, Nat.reduceEqDiff, Nat.reduceAdd, Nat.reduceLT, ↓us_sl2Row, r_sl2Row]
      have hg := grown_trans hg5 hg6
      have e : (l.set q (UInt8.ofNat (49 + (q + 1)))).set (q + 1) (UInt8.ofNat (49 + q)) = swapL l q := by rw [swapL, hgq, hgq1]
      refine ⟨inR_i64 (by omega), inR_i64 (by omega), n + 1 - (q + 1 + 2), by omega, q + 1 + 2, swapL l q, rfl, by omega, by omega, rfl, by rw [swapL_len]; exact hl, fun j hj hjn => ?_, ?_, ho6.to e, hoA.grown (hx.trans hx4) (Nat.le_refl _) hg⟩
      · rw [swapL_get l q j (by omega), if_neg (by omega), if_neg (by omega)]
        exact hget j (by omega) hjn
      · rw [← hsw, swapsL_swap hlt hst]
        rfl
    · rw [← hsw, swapsL_stay hlt (by simpa using hst)]
  · have hltI : ¬ (p : Int) < n := by omega
    simp only [↓vsd, vsn, gW, qd, qv, ev, pick, argE, zipE, ne_eq, eq_self, forall_const, implies_true, if_true, if_false, reduceIte, reduceCtorEq, Nat.reduceEqDiff, Nat.reduceAdd, Nat.reduceLT, ↓us_sl2Row, r_sl2Row, hltI]
    refine m_b2s ho.sq ?_
    simp only [↓vsd, vsn, gW, qd, qv, ev, pick, argE, zipE, ne_eq, eq_self, forall_const, implies_true, if_true, if_false, reduceIte, reduceCtorEq, Nat.reduceEqDiff, Nat.reduceAdd, Nat.reduceLT, ↓us_sl2Row, r_sl2Row]
    exact ⟨hx, by rw [← hsw, swapsL_end (by omega)]; rfl⟩
theorem iapply_ok (l c : List UInt8) (hl : IsRow l) (hc : c.length ≤ 1048576) (hd : c = [45] ∨ DigUp c c.length) (w : World) : Fn 187 [S l, S c] w (fun v _ => v = S (applyL l c)) := by
  (refine callsV_of mix Try.func187 c_iapply ?_; simp only [↓vsd, vsn, gW, qd, qv, ev, pick, argE, zipE, ne_eq, eq_self, forall_const, implies_true, if_true, if_false, reduceIte, reduceCtorEq, Nat.reduceEqDiff, Nat.reduceAdd, Nat.reduceLT, ↓us_iapply, r_iapply])
  refine m_call (ichangeRow_ok _ c hl.1 hc hd _) ?_
  rintro _ w1 hx1 rfl
  simp only [↓vsd, vsn, gW, qd, qv, ev, pick, argE, zipE, ne_eq, eq_self, forall_const, implies_true, if_true, if_false, reduceIte, reduceCtorEq, Nat.reduceEqDiff, Nat.reduceAdd, Nat.reduceLT, ↓us_iapply, r_iapply]
  refine m_call (itimes_ok l _ (chgL_row _ c hl.1) (chgL_len _ _).symm _) ?_
  rintro _ w2 hx2 rfl
  simp only [↓vsd, vsn, gW, qd, qv, ev, pick, argE, zipE, ne_eq, eq_self, forall_const, implies_true, if_true, if_false, reduceIte, reduceCtorEq, Nat.reduceEqDiff, Nat.reduceAdd, Nat.reduceLT, ↓us_iapply, r_iapply]
  exact ⟨hx1.trans hx2, rfl⟩
theorem sl2Apply_ok (l c : List UInt8) (hl : IsRow l) (hc : c.length ≤ 1048576) (w : World) : Fn 173 [S l, S c] w (fun v _ => v = S (applyL l c)) := by
  (refine callsV_of mix Try.func173 c_sl2Apply ?_; simp only [↓vsd, vsn, gW, qd, qv, ev, pick, argE, zipE, ne_eq, eq_self, forall_const, implies_true, if_true, if_false, reduceIte, reduceCtorEq, Nat.reduceEqDiff, Nat.reduceAdd, Nat.reduceLT, ↓us_sl2Apply, r_sl2Apply])
  refine m_call (sl2Row_ok _ c hl.1 hc _) ?_
  rintro _ w1 hx1 rfl
  simp only [↓vsd, vsn, gW, qd, qv, ev, pick, argE, zipE, ne_eq, eq_self, forall_const, implies_true, if_true, if_false, reduceIte, reduceCtorEq, Nat.reduceEqDiff, Nat.reduceAdd, Nat.reduceLT, ↓us_sl2Apply, r_sl2Apply]
  refine m_call (sl1Times_ok l _ (chgL_row _ c hl.1) (chgL_len _ _).symm _) ?_
  rintro _ w2 hx2 rfl
  simp only [↓vsd, vsn, gW, qd, qv, ev, pick, argE, zipE, ne_eq, eq_self, forall_const, implies_true, if_true, if_false, reduceIte, reduceCtorEq, Nat.reduceEqDiff, Nat.reduceAdd, Nat.reduceLT, ↓us_sl2Apply, r_sl2Apply]
  exact ⟨hx1.trans hx2, rfl⟩
end Go.Proofs.Ytnhealghpfjdcaa
