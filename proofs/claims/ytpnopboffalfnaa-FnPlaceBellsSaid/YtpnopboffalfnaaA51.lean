/-
  Dodges and points of a path, of both sides.
  Conditions: none.
-/
import Derived.Test.YtpnopboffalfnaaA11
import Derived.Test.YtpnopboffalfnaaVw
set_option linter.unusedSimpArgs false
set_option linter.unusedVariables false
set_option linter.defProp false
namespace Go.Proofs.Ytpnopboffalfnaa
open Go Go.RowKit
section
variable (P : Program) (k : KT) (e : Env) (w : World)
abbrev b211_1 : X := (.cond (.t 7) (.seq (.reg [2] (.c (.q 2 [] (.mv (.c (.bool false)))) .nil)) .ret) .skip)
def t211_1 := b211_1
theorem u211_1 : vcK P t211_1 k e w = vcK P b211_1 k e w := rfl
abbrev b211_2 : X := (.cond (.t 41) (.seq (.reg [2] (.c (.q 2 [] (.mv (.c (.bool false)))) .nil)) .ret) .skip)
def t211_2 := b211_2
theorem u211_2 : vcK P t211_2 k e w = vcK P b211_2 k e w := rfl
abbrev b211_3 : X := (.seq (.reg [0, 8, 9, 10, 41] (.c (.q 15 [] (.mv (.t 4))) (.c (.e (some 16) [] (.call false 201 [(.c (.int .i64 8)), (.t 15)])) (.c (.q 17 [] (.not (.t 16))) (.c (.q 18 [] (.mv (.t 17))) (.c (.q 19 [(18, false)] (.mv (.t 3))) (.c (.q 20 [(18, false)] (.bin .gtr (.t 19) (.c (.int .i64 0)))) (.c (.q 21 [(18, false)] (.mv (.t 20))) (.c (.q 22 [(21, true), (18, false)] (.mv (.t 4))) (.c (.q 23 [(21, true), (18, false)] (.mv (.t 0))) (.c (.q 24 [(21, true), (18, false)] (.mv (.t 3))) (.c (.q 25 [(21, true), (18, false)] (.bin .sub (.t 24) (.c (.int .i64 1)))) (.c (.q 26 [(21, true), (18, false)] (.ia 1 (.t 23) (.t 25))) (.c (.q 27 [(21, true), (18, false)] (.ld (.t 26))) (.c (.q 28 [(21, true), (18, false)] (.bin .sub (.t 22) (.t 27))) (.c (.q 29 [(21, true), (18, false)] (.bin .gtr (.t 28) (.c (.int .i64 1)))) (.c (.q 30 [(21, true), (18, false)] (.mv (.t 29))) (.c (.q 31 [(30, false), (21, true), (18, false)] (.mv (.t 0))) (.c (.q 32 [(30, false), (21, true), (18, false)] (.mv (.t 3))) (.c (.q 33 [(30, false), (21, true), (18, false)] (.bin .sub (.t 32) (.c (.int .i64 1)))) (.c (.q 34 [(30, false), (21, true), (18, false)] (.ia 1 (.t 31) (.t 33))) (.c (.q 35 [(30, false), (21, true), (18, false)] (.ld (.t 34))) (.c (.q 36 [(30, false), (21, true), (18, false)] (.mv (.t 4))) (.c (.q 37 [(30, false), (21, true), (18, false)] (.bin .sub (.t 35) (.t 36))) (.c (.q 38 [(30, false), (21, true), (18, false)] (.bin .gtr (.t 37) (.c (.int .i64 1)))) (.c (.q 39 [(21, true), (18, false)] (.pick (.t 30) (.c (.bool true)) (.t 38))) (.c (.q 40 [(18, false)] (.pick (.t 21) (.t 39) (.c (.bool false)))) (.c (.q 41 [] (.pick (.t 18) (.c (.bool true)) (.t 40))) .nil)))))))))))))))))))))))))))) t211_2)
def t211_3 := b211_3
theorem u211_3 : vcK P t211_3 k e w = vcK P b211_3 k e w := rfl
abbrev b211_4 : X := (.reg [0, 8, 9, 10] (.c (.q 42 [] (.bin .add (.t 10) (.c (.int .i64 1)))) (.c (.q 10 [] (.mv (.t 42))) .nil)))
def t211_4 := b211_4
theorem u211_4 : vcK P t211_4 k e w = vcK P b211_4 k e w := rfl
abbrev b211_5 : X := (.seq (.blk 1 (.seq (.reg [0, 3, 4, 8, 9, 10] (.c (.q 12 [] (.mv (.t 10))) (.c (.q 13 [] (.ia 1 (.t 8) (.t 10))) (.c (.q 14 [] (.ld (.t 13))) (.c (.q 3 [] (.mv (.t 12))) (.c (.q 4 [] (.mv (.t 14))) .nil)))))) t211_3)) t211_4)
def t211_5 := b211_5
theorem u211_5 : vcK P t211_5 k e w = vcK P b211_5 k e w := rfl
abbrev b211_6 : X := (.seq (.cond (.t 11) .skip (.exit 0)) t211_5)
def t211_6 := b211_6
theorem u211_6 : vcK P t211_6 k e w = vcK P b211_6 k e w := rfl
abbrev b211_7 : X := (.seq (.reg [0, 8, 9, 10, 11] (.c (.q 11 [] (.bin .lss (.t 10) (.t 9))) .nil)) t211_6)
def t211_7 := b211_7
theorem u211_7 : vcK P t211_7 k e w = vcK P b211_7 k e w := rfl
abbrev b211_8 : X := (.blk 0 (.loop [10] [0, 8, 9] t211_7))
def t211_8 := b211_8
theorem u211_8 : vcK P t211_8 k e w = vcK P b211_8 k e w := rfl
abbrev b211_9 : X := (.seq (.reg [2] (.c (.q 2 [] (.mv (.c (.bool true)))) .nil)) .ret)
def t211_9 := b211_9
theorem u211_9 : vcK P t211_9 k e w = vcK P b211_9 k e w := rfl
abbrev b211_10 : X := (.seq (.seq (.reg [0, 8, 9, 10] (.c (.q 8 [] (.mv (.t 0))) (.c (.q 9 [] (.lens (.t 8))) (.c (.q 10 [] (.mv (.c (.int .i64 0)))) .nil)))) t211_8) t211_9)
def t211_10 := b211_10
theorem u211_10 : vcK P t211_10 k e w = vcK P b211_10 k e w := rfl
abbrev b211_11 : X := (.seq (.seq (.reg [0, 7] (.c (.q 5 [] (.mv (.t 0))) (.c (.q 6 [] (.lens (.t 5))) (.c (.q 7 [] (.bin .gtr (.t 6) (.c (.int .i64 800)))) .nil)))) t211_1) t211_10)
def t211_11 := b211_11
theorem u211_11 : vcK P t211_11 k e w = vcK P b211_11 k e w := rfl
abbrev b211_0 : X := (.seq (.reg [0] (.c (.q 2 [] (.mv (.c (.bool false)))) .nil)) t211_11)
def x_iisPath := b211_0
theorem u211_0 : vcK P x_iisPath k e w = vcK P b211_0 k e w := rfl
def r_iisPath : List XO := [(.mv (.t 2))]
theorem c_iisPath : convF Try.prog [169, 170, 207, 208, 210, 227, 232, 233, 255, 259, 268, 269, 270, 280, 281, 296, 299, 306, 307, 309] Try.f211 [([0], []), ([0, 7], []), ([2], []), ([0, 8, 9, 10], []), ([10], [0, 8, 9]), ([0, 8, 9, 10, 11], []), ([0, 3, 4, 8, 9, 10], []), ([0, 8, 9, 10, 41], []), ([2], []), ([0, 8, 9, 10], []), ([2], [])] = some (x_iisPath, r_iisPath) := by kernel_rfl
def us_iisPath := aI @u211_0 (aI @u211_1 (aI @u211_2 (aI @u211_3 (aI @u211_4 (aI @u211_5 (aI @u211_6 (aI @u211_7 (aI @u211_8 (aI @u211_9 (aI @u211_10 @u211_11))))))))))
abbrev b226_1 : X := (.cond (.t 19) (.seq (.reg [6] (.c (.q 6 [] (.mv (.c (.bool false)))) .nil)) .ret) .skip)
def t226_1 := b226_1
theorem u226_1 : vcK P t226_1 k e w = vcK P b226_1 k e w := rfl
abbrev b226_2 : X := (.seq (.reg [1, 2, 9, 10, 11, 19] (.c (.q 15 [] (.mv (.t 8))) (.c (.q 16 [] (.mv (.t 1))) (.c (.q 17 [] (.mv (.t 2))) (.c (.e (some 18) [] (.call false 173 [(.t 15), (.t 16), (.t 17)])) (.c (.q 19 [] (.not (.t 18))) .nil)))))) t226_1)
def t226_2 := b226_2
theorem u226_2 : vcK P t226_2 k e w = vcK P b226_2 k e w := rfl
abbrev b226_3 : X := (.reg [1, 2, 9, 10, 11] (.c (.q 20 [] (.bin .add (.t 11) (.c (.int .i64 1)))) (.c (.q 11 [] (.mv (.t 20))) .nil)))
def t226_3 := b226_3
theorem u226_3 : vcK P t226_3 k e w = vcK P b226_3 k e w := rfl
abbrev b226_4 : X := (.seq (.blk 1 (.seq (.reg [1, 2, 8, 9, 10, 11] (.c (.q 13 [] (.ia 1 (.t 9) (.t 11))) (.c (.q 14 [] (.ld (.t 13))) (.c (.q 8 [] (.mv (.t 14))) .nil)))) t226_2)) t226_3)
def t226_4 := b226_4
theorem u226_4 : vcK P t226_4 k e w = vcK P b226_4 k e w := rfl
abbrev b226_5 : X := (.seq (.cond (.t 12) .skip (.exit 0)) t226_4)
def t226_5 := b226_5
theorem u226_5 : vcK P t226_5 k e w = vcK P b226_5 k e w := rfl
abbrev b226_6 : X := (.seq (.reg [1, 2, 9, 10, 11, 12] (.c (.q 12 [] (.bin .lss (.t 11) (.t 10))) .nil)) t226_5)
def t226_6 := b226_6
theorem u226_6 : vcK P t226_6 k e w = vcK P b226_6 k e w := rfl
abbrev b226_7 : X := (.blk 0 (.loop [11] [1, 2, 9, 10] t226_6))
def t226_7 := b226_7
theorem u226_7 : vcK P t226_7 k e w = vcK P b226_7 k e w := rfl
abbrev b226_8 : X := (.seq (.reg [6] (.c (.q 6 [] (.mv (.c (.bool true)))) .nil)) .ret)
def t226_8 := b226_8
theorem u226_8 : vcK P t226_8 k e w = vcK P b226_8 k e w := rfl
abbrev b226_9 : X := (.seq (.seq (.reg [1, 2, 9, 10, 11] (.c (.q 9 [] (.mv (.t 0))) (.c (.q 10 [] (.lens (.t 9))) (.c (.q 11 [] (.mv (.c (.int .i64 0)))) .nil)))) t226_7) t226_8)
def t226_9 := b226_9
theorem u226_9 : vcK P t226_9 k e w = vcK P b226_9 k e w := rfl
abbrev b226_0 : X := (.seq (.reg [0, 1, 2] (.c (.q 6 [] (.mv (.c (.bool false)))) .nil)) t226_9)
def x_sl1All := b226_0
theorem u226_0 : vcK P x_sl1All k e w = vcK P b226_0 k e w := rfl
def r_sl1All : List XO := [(.mv (.t 6))]
theorem c_sl1All : convF Try.prog [169, 170, 207, 208, 210, 227, 232, 233, 255, 259, 268, 269, 270, 280, 281, 296, 299, 306, 307, 309] Try.f226 [([0, 1, 2], []), ([1, 2, 9, 10, 11], []), ([11], [1, 2, 9, 10]), ([1, 2, 9, 10, 11, 12], []), ([1, 2, 8, 9, 10, 11], []), ([1, 2, 9, 10, 11, 19], []), ([6], []), ([1, 2, 9, 10, 11], []), ([6], [])] = some (x_sl1All, r_sl1All) := by kernel_rfl
def us_sl1All := aI @u226_0 (aI @u226_1 (aI @u226_2 (aI @u226_3 (aI @u226_4 (aI @u226_5 (aI @u226_6 (aI @u226_7 (aI @u226_8 @u226_9))))))))
abbrev b212_1 : X := (.cond (.t 24) (.seq (.reg [2] (.c (.q 2 [] (.mv (.c (.bool false)))) .nil)) .ret) .skip)
def t212_1 := b212_1
theorem u212_1 : vcK P t212_1 k e w = vcK P b212_1 k e w := rfl
abbrev b212_2 : X := (.seq (.reg [0, 5, 6, 7, 24] (.c (.q 12 [] (.mv (.t 3))) (.c (.q 13 [] (.bin .gtr (.t 12) (.c (.int .i64 0)))) (.c (.q 14 [] (.mv (.t 13))) (.c (.q 15 [(14, true)] (.mv (.t 4))) (.c (.q 16 [(14, true)] (.mv (.t 0))) (.c (.q 17 [(14, true)] (.mv (.t 3))) (.c (.q 18 [(14, true)] (.bin .sub (.t 17) (.c (.int .i64 1)))) (.c (.q 19 [(14, true)] (.ia 1 (.t 16) (.t 18))) (.c (.q 20 [(14, true)] (.ld (.t 19))) (.c (.q 21 [(14, true)] (.bin .sub (.t 15) (.t 20))) (.c (.e (some 22) [(14, true)] (.call false 173 [(.t 21), (.c (.int .i64 (-1))), (.c (.int .i64 1))])) (.c (.q 23 [(14, true)] (.not (.t 22))) (.c (.q 24 [] (.pick (.t 14) (.t 23) (.c (.bool false)))) .nil)))))))))))))) t212_1)
def t212_2 := b212_2
theorem u212_2 : vcK P t212_2 k e w = vcK P b212_2 k e w := rfl
abbrev b212_3 : X := (.reg [0, 5, 6, 7] (.c (.q 25 [] (.bin .add (.t 7) (.c (.int .i64 1)))) (.c (.q 7 [] (.mv (.t 25))) .nil)))
def t212_3 := b212_3
theorem u212_3 : vcK P t212_3 k e w = vcK P b212_3 k e w := rfl
abbrev b212_4 : X := (.seq (.blk 1 (.seq (.reg [0, 3, 4, 5, 6, 7] (.c (.q 9 [] (.mv (.t 7))) (.c (.q 10 [] (.ia 1 (.t 5) (.t 7))) (.c (.q 11 [] (.ld (.t 10))) (.c (.q 3 [] (.mv (.t 9))) (.c (.q 4 [] (.mv (.t 11))) .nil)))))) t212_2)) t212_3)
def t212_4 := b212_4
theorem u212_4 : vcK P t212_4 k e w = vcK P b212_4 k e w := rfl
abbrev b212_5 : X := (.seq (.cond (.t 8) .skip (.exit 0)) t212_4)
def t212_5 := b212_5
theorem u212_5 : vcK P t212_5 k e w = vcK P b212_5 k e w := rfl
abbrev b212_6 : X := (.seq (.reg [0, 5, 6, 7, 8] (.c (.q 8 [] (.bin .lss (.t 7) (.t 6))) .nil)) t212_5)
def t212_6 := b212_6
theorem u212_6 : vcK P t212_6 k e w = vcK P b212_6 k e w := rfl
abbrev b212_7 : X := (.blk 0 (.loop [7] [0, 5, 6] t212_6))
def t212_7 := b212_7
theorem u212_7 : vcK P t212_7 k e w = vcK P b212_7 k e w := rfl
abbrev b212_8 : X := (.seq (.reg [2] (.c (.q 26 [] (.mv (.t 0))) (.c (.q 27 [] (.lens (.t 26))) (.c (.q 28 [] (.bin .leq (.t 27) (.c (.int .i64 800)))) (.c (.q 29 [] (.mv (.t 28))) (.c (.q 30 [(29, true)] (.mv (.t 0))) (.c (.e (some 31) [(29, true)] (.call false 226 [(.t 30), (.c (.int .i64 1)), (.c (.int .i64 8))])) (.c (.q 32 [] (.pick (.t 29) (.t 31) (.c (.bool false)))) (.c (.q 2 [] (.mv (.t 32))) .nil))))))))) .ret)
def t212_8 := b212_8
theorem u212_8 : vcK P t212_8 k e w = vcK P b212_8 k e w := rfl
abbrev b212_9 : X := (.seq (.seq (.reg [0, 5, 6, 7] (.c (.q 5 [] (.mv (.t 0))) (.c (.q 6 [] (.lens (.t 5))) (.c (.q 7 [] (.mv (.c (.int .i64 0)))) .nil)))) t212_7) t212_8)
def t212_9 := b212_9
theorem u212_9 : vcK P t212_9 k e w = vcK P b212_9 k e w := rfl
abbrev b212_0 : X := (.seq (.reg [0] (.c (.q 2 [] (.mv (.c (.bool false)))) .nil)) t212_9)
def x_sl5Good := b212_0
theorem u212_0 : vcK P x_sl5Good k e w = vcK P b212_0 k e w := rfl
def r_sl5Good : List XO := [(.mv (.t 2))]
theorem c_sl5Good : convF Try.prog [169, 170, 207, 208, 210, 227, 232, 233, 255, 259, 268, 269, 270, 280, 281, 296, 299, 306, 307, 309] Try.f212 [([0], []), ([0, 5, 6, 7], []), ([7], [0, 5, 6]), ([0, 5, 6, 7, 8], []), ([0, 3, 4, 5, 6, 7], []), ([0, 5, 6, 7, 24], []), ([2], []), ([0, 5, 6, 7], []), ([2], [])] = some (x_sl5Good, r_sl5Good) := by kernel_rfl
def us_sl5Good := aI @u212_0 (aI @u212_1 (aI @u212_2 (aI @u212_3 (aI @u212_4 (aI @u212_5 (aI @u212_6 (aI @u212_7 (aI @u212_8 @u212_9))))))))
abbrev b69_1 : X := (.cond (.t 11) (.seq (.reg [2, 3] (.c (.q 2 [] (.mv (.c (.slice none 0 0)))) (.c (.q 3 [] (.mv (.c (.bool false)))) .nil))) .ret) .skip)
def t69_1 := b69_1
theorem u69_1 : vcK P t69_1 k e w = vcK P b69_1 k e w := rfl
abbrev b69_2 : X := (.cond (.t 17) .skip (.exit 0))
def t69_2 := b69_2
theorem u69_2 : vcK P t69_2 k e w = vcK P b69_2 k e w := rfl
abbrev b69_3 : X := (.cond (.t 63) (.reg [0, 4, 5] (.c (.q 64 [] (.mv (.t 4))) (.c (.q 65 [] (.mv (.t 5))) (.c (.e (some 66) [] (.bsl 3 1 [(.t 65)])) (.c (.e (some 67) [] (.app 69 3 1 8 [(.int .i64 0)] 69 (.t 64) (.t 66))) (.c (.q 4 [] (.mv (.t 67))) .nil)))))) .skip)
def t69_3 := b69_3
theorem u69_3 : vcK P t69_3 k e w = vcK P b69_3 k e w := rfl
abbrev b69_4 : X := (.seq (.reg [0, 4, 5, 63] (.c (.q 51 [] (.mv (.t 6))) (.c (.q 52 [] (.bin .neq (.t 51) (.c (.int .i64 0)))) (.c (.q 53 [] (.mv (.t 52))) (.c (.q 54 [(53, true)] (.mv (.t 7))) (.c (.q 55 [(53, true)] (.mv (.t 6))) (.c (.q 56 [(53, true)] (.neg (.t 55))) (.c (.q 57 [(53, true)] (.bin .eql (.t 54) (.t 56))) (.c (.q 58 [] (.pick (.t 53) (.t 57) (.c (.bool false)))) (.c (.q 59 [] (.mv (.t 58))) (.c (.q 60 [(59, true)] (.mv (.t 8))) (.c (.q 61 [(59, true)] (.mv (.t 6))) (.c (.q 62 [(59, true)] (.bin .eql (.t 60) (.t 61))) (.c (.q 63 [] (.pick (.t 59) (.t 62) (.c (.bool false)))) .nil)))))))))))))) t69_3)
def t69_4 := b69_4
theorem u69_4 : vcK P t69_4 k e w = vcK P b69_4 k e w := rfl
abbrev b69_5 : X := (.reg [0, 4, 5] (.c (.q 18 [] (.mv (.t 5))) (.c (.q 19 [] (.bin .add (.t 18) (.c (.int .i64 1)))) (.c (.q 5 [] (.mv (.t 19))) .nil))))
def t69_5 := b69_5
theorem u69_5 : vcK P t69_5 k e w = vcK P b69_5 k e w := rfl
abbrev b69_6 : X := (.seq (.blk 1 (.seq (.drw [0, 4, 5, 6, 7, 8] (.c (.q 20 [] (.mv (.t 0))) (.c (.q 21 [] (.mv (.t 5))) (.c (.q 22 [] (.ia 1 (.t 20) (.t 21))) (.c (.q 23 [] (.ld (.t 22))) (.c (.q 24 [] (.mv (.t 0))) (.c (.q 25 [] (.mv (.t 5))) (.c (.q 26 [] (.bin .sub (.t 25) (.c (.int .i64 1)))) (.c (.q 27 [] (.ia 1 (.t 24) (.t 26))) (.c (.q 28 [] (.ld (.t 27))) (.c (.q 29 [] (.bin .sub (.t 23) (.t 28))) (.c (.q 30 [] (.mv (.t 0))) (.c (.q 31 [] (.mv (.t 5))) (.c (.q 32 [] (.bin .add (.t 31) (.c (.int .i64 1)))) (.c (.q 33 [] (.ia 1 (.t 30) (.t 32))) (.c (.q 34 [] (.ld (.t 33))) (.c (.q 35 [] (.mv (.t 0))) (.c (.q 36 [] (.mv (.t 5))) (.c (.q 37 [] (.ia 1 (.t 35) (.t 36))) (.c (.q 38 [] (.ld (.t 37))) (.c (.q 39 [] (.bin .sub (.t 34) (.t 38))) (.c (.q 40 [] (.mv (.t 0))) (.c (.q 41 [] (.mv (.t 5))) (.c (.q 42 [] (.bin .add (.t 41) (.c (.int .i64 2)))) (.c (.q 43 [] (.ia 1 (.t 40) (.t 42))) (.c (.q 44 [] (.ld (.t 43))) (.c (.q 45 [] (.mv (.t 0))) (.c (.q 46 [] (.mv (.t 5))) (.c (.q 47 [] (.bin .add (.t 46) (.c (.int .i64 1)))) (.c (.q 48 [] (.ia 1 (.t 45) (.t 47))) (.c (.q 49 [] (.ld (.t 48))) (.c (.q 50 [] (.bin .sub (.t 44) (.t 49))) (.c (.q 6 [] (.mv (.t 29))) (.c (.q 7 [] (.mv (.t 39))) (.c (.q 8 [] (.mv (.t 50))) .nil))))))))))))))))))))))))))))))))))) t69_4)) t69_5)
def t69_6 := b69_6
theorem u69_6 : vcK P t69_6 k e w = vcK P b69_6 k e w := rfl
abbrev b69_7 : X := (.seq (.seq (.reg [0, 4, 5, 17] (.c (.q 13 [] (.mv (.t 5))) (.c (.q 14 [] (.bin .add (.t 13) (.c (.int .i64 2)))) (.c (.q 15 [] (.mv (.t 0))) (.c (.q 16 [] (.lens (.t 15))) (.c (.q 17 [] (.bin .lss (.t 14) (.t 16))) .nil)))))) t69_2) t69_6)
def t69_7 := b69_7
theorem u69_7 : vcK P t69_7 k e w = vcK P b69_7 k e w := rfl
abbrev b69_8 : X := (.blk 0 (.loop [4, 5] [0] t69_7))
def t69_8 := b69_8
theorem u69_8 : vcK P t69_8 k e w = vcK P b69_8 k e w := rfl
abbrev b69_9 : X := (.seq (.reg [2, 3] (.c (.q 68 [] (.mv (.t 4))) (.c (.q 2 [] (.mv (.t 68))) (.c (.q 3 [] (.mv (.c (.bool true)))) .nil)))) .ret)
def t69_9 := b69_9
theorem u69_9 : vcK P t69_9 k e w = vcK P b69_9 k e w := rfl
abbrev b69_10 : X := (.seq (.seq (.reg [0, 4, 5] (.c (.q 5 [] (.mv (.c (.int .i64 1)))) .nil)) t69_8) t69_9)
def t69_10 := b69_10
theorem u69_10 : vcK P t69_10 k e w = vcK P b69_10 k e w := rfl
abbrev b69_11 : X := (.seq (.reg [0, 4] (.c (.e (some 12) [] (.bsl 3 1 [])) (.c (.q 4 [] (.mv (.t 12))) .nil))) t69_10)
def t69_11 := b69_11
theorem u69_11 : vcK P t69_11 k e w = vcK P b69_11 k e w := rfl
abbrev b69_12 : X := (.seq (.seq (.reg [0, 11] (.c (.q 9 [] (.mv (.t 0))) (.c (.e (some 10) [] (.call false 211 [(.t 9)])) (.c (.q 11 [] (.not (.t 10))) .nil)))) t69_1) t69_11)
def t69_12 := b69_12
theorem u69_12 : vcK P t69_12 k e w = vcK P b69_12 k e w := rfl
abbrev b69_0 : X := (.seq (.reg [0] (.c (.q 2 [] (.mv (.c (.slice none 0 0)))) (.c (.q 3 [] (.mv (.c (.bool false)))) .nil))) t69_12)
def x_iDodgesIn := b69_0
theorem u69_0 : vcK P x_iDodgesIn k e w = vcK P b69_0 k e w := rfl
def r_iDodgesIn : List XO := [(.mv (.t 2)), (.mv (.t 3))]
theorem c_iDodgesIn : convF Try.prog [169, 170, 207, 208, 210, 227, 232, 233, 255, 259, 268, 269, 270, 280, 281, 296, 299, 306, 307, 309] Try.f69 [([0], []), ([0, 11], []), ([2, 3], []), ([0, 4], []), ([0, 4, 5], []), ([4, 5], [0]), ([0, 4, 5, 17], []), ([0, 4, 5, 6, 7, 8], []), ([0, 4, 5, 63], []), ([0, 4, 5], []), ([0, 4, 5], []), ([2, 3], [])] = some (x_iDodgesIn, r_iDodgesIn) := by kernel_rfl
def us_iDodgesIn := aI @u69_0 (aI @u69_1 (aI @u69_2 (aI @u69_3 (aI @u69_4 (aI @u69_5 (aI @u69_6 (aI @u69_7 (aI @u69_8 (aI @u69_9 (aI @u69_10 (aI @u69_11 @u69_12)))))))))))
abbrev b70_1 : X := (.cond (.t 11) (.seq (.reg [2, 3] (.c (.q 2 [] (.mv (.c (.slice none 0 0)))) (.c (.q 3 [] (.mv (.c (.bool false)))) .nil))) .ret) .skip)
def t70_1 := b70_1
theorem u70_1 : vcK P t70_1 k e w = vcK P b70_1 k e w := rfl
abbrev b70_2 : X := (.cond (.t 16) .skip (.exit 0))
def t70_2 := b70_2
theorem u70_2 : vcK P t70_2 k e w = vcK P b70_2 k e w := rfl
abbrev b70_3 : X := (.cond (.t 62) (.reg [0, 4, 5] (.c (.q 63 [] (.mv (.t 4))) (.c (.q 64 [] (.mv (.t 5))) (.c (.e (some 65) [] (.bsl 3 1 [(.t 64)])) (.c (.e (some 66) [] (.app 69 3 1 8 [(.int .i64 0)] 69 (.t 63) (.t 65))) (.c (.q 4 [] (.mv (.t 66))) .nil)))))) .skip)
def t70_3 := b70_3
theorem u70_3 : vcK P t70_3 k e w = vcK P b70_3 k e w := rfl
abbrev b70_4 : X := (.seq (.reg [0, 4, 5, 62] (.c (.q 50 [] (.mv (.t 6))) (.c (.q 51 [] (.bin .neq (.t 50) (.c (.int .i64 0)))) (.c (.q 52 [] (.mv (.t 51))) (.c (.q 53 [(52, true)] (.mv (.t 7))) (.c (.q 54 [(52, true)] (.mv (.t 6))) (.c (.q 55 [(52, true)] (.neg (.t 54))) (.c (.q 56 [(52, true)] (.bin .eql (.t 53) (.t 55))) (.c (.q 57 [] (.pick (.t 52) (.t 56) (.c (.bool false)))) (.c (.q 58 [] (.mv (.t 57))) (.c (.q 59 [(58, true)] (.mv (.t 8))) (.c (.q 60 [(58, true)] (.mv (.t 6))) (.c (.q 61 [(58, true)] (.bin .eql (.t 59) (.t 60))) (.c (.q 62 [] (.pick (.t 58) (.t 61) (.c (.bool false)))) .nil)))))))))))))) t70_3)
def t70_4 := b70_4
theorem u70_4 : vcK P t70_4 k e w = vcK P b70_4 k e w := rfl
abbrev b70_5 : X := (.reg [0, 4, 5] (.c (.q 17 [] (.mv (.t 5))) (.c (.q 18 [] (.bin .add (.t 17) (.c (.int .i64 1)))) (.c (.q 5 [] (.mv (.t 18))) .nil))))
def t70_5 := b70_5
theorem u70_5 : vcK P t70_5 k e w = vcK P b70_5 k e w := rfl
abbrev b70_6 : X := (.seq (.blk 1 (.seq (.drw [0, 4, 5, 6, 7, 8] (.c (.q 19 [] (.mv (.t 0))) (.c (.q 20 [] (.mv (.t 5))) (.c (.q 21 [] (.ia 1 (.t 19) (.t 20))) (.c (.q 22 [] (.ld (.t 21))) (.c (.q 23 [] (.mv (.t 0))) (.c (.q 24 [] (.mv (.t 5))) (.c (.q 25 [] (.bin .sub (.t 24) (.c (.int .i64 1)))) (.c (.q 26 [] (.ia 1 (.t 23) (.t 25))) (.c (.q 27 [] (.ld (.t 26))) (.c (.q 28 [] (.bin .sub (.t 22) (.t 27))) (.c (.q 29 [] (.mv (.t 0))) (.c (.q 30 [] (.mv (.t 5))) (.c (.q 31 [] (.bin .add (.t 30) (.c (.int .i64 1)))) (.c (.q 32 [] (.ia 1 (.t 29) (.t 31))) (.c (.q 33 [] (.ld (.t 32))) (.c (.q 34 [] (.mv (.t 0))) (.c (.q 35 [] (.mv (.t 5))) (.c (.q 36 [] (.ia 1 (.t 34) (.t 35))) (.c (.q 37 [] (.ld (.t 36))) (.c (.q 38 [] (.bin .sub (.t 33) (.t 37))) (.c (.q 39 [] (.mv (.t 0))) (.c (.q 40 [] (.mv (.t 5))) (.c (.q 41 [] (.bin .add (.t 40) (.c (.int .i64 2)))) (.c (.q 42 [] (.ia 1 (.t 39) (.t 41))) (.c (.q 43 [] (.ld (.t 42))) (.c (.q 44 [] (.mv (.t 0))) (.c (.q 45 [] (.mv (.t 5))) (.c (.q 46 [] (.bin .add (.t 45) (.c (.int .i64 1)))) (.c (.q 47 [] (.ia 1 (.t 44) (.t 46))) (.c (.q 48 [] (.ld (.t 47))) (.c (.q 49 [] (.bin .sub (.t 43) (.t 48))) (.c (.q 6 [] (.mv (.t 28))) (.c (.q 7 [] (.mv (.t 38))) (.c (.q 8 [] (.mv (.t 49))) .nil))))))))))))))))))))))))))))))))))) t70_4)) t70_5)
def t70_6 := b70_6
theorem u70_6 : vcK P t70_6 k e w = vcK P b70_6 k e w := rfl
abbrev b70_7 : X := (.seq (.seq (.reg [0, 4, 5, 16] (.c (.q 12 [] (.mv (.t 5))) (.c (.q 13 [] (.bin .add (.t 12) (.c (.int .i64 2)))) (.c (.q 14 [] (.mv (.t 0))) (.c (.q 15 [] (.lens (.t 14))) (.c (.q 16 [] (.bin .lss (.t 13) (.t 15))) .nil)))))) t70_2) t70_6)
def t70_7 := b70_7
theorem u70_7 : vcK P t70_7 k e w = vcK P b70_7 k e w := rfl
abbrev b70_8 : X := (.blk 0 (.loop [4, 5] [0] t70_7))
def t70_8 := b70_8
theorem u70_8 : vcK P t70_8 k e w = vcK P b70_8 k e w := rfl
abbrev b70_9 : X := (.seq (.reg [2, 3] (.c (.q 67 [] (.mv (.t 4))) (.c (.q 2 [] (.mv (.t 67))) (.c (.q 3 [] (.mv (.c (.bool true)))) .nil)))) .ret)
def t70_9 := b70_9
theorem u70_9 : vcK P t70_9 k e w = vcK P b70_9 k e w := rfl
abbrev b70_10 : X := (.seq (.seq (.reg [0, 4, 5] (.c (.q 5 [] (.mv (.c (.int .i64 1)))) .nil)) t70_8) t70_9)
def t70_10 := b70_10
theorem u70_10 : vcK P t70_10 k e w = vcK P b70_10 k e w := rfl
abbrev b70_11 : X := (.seq (.reg [0, 4] (.c (.q 4 [] (.mv (.c (.slice none 0 0)))) .nil)) t70_10)
def t70_11 := b70_11
theorem u70_11 : vcK P t70_11 k e w = vcK P b70_11 k e w := rfl
abbrev b70_12 : X := (.seq (.seq (.reg [0, 11] (.c (.q 9 [] (.mv (.t 0))) (.c (.e (some 10) [] (.call false 212 [(.t 9)])) (.c (.q 11 [] (.not (.t 10))) .nil)))) t70_1) t70_11)
def t70_12 := b70_12
theorem u70_12 : vcK P t70_12 k e w = vcK P b70_12 k e w := rfl
abbrev b70_0 : X := (.seq (.reg [0] (.c (.q 2 [] (.mv (.c (.slice none 0 0)))) (.c (.q 3 [] (.mv (.c (.bool false)))) .nil))) t70_12)
def x_sDodgesIn := b70_0
theorem u70_0 : vcK P x_sDodgesIn k e w = vcK P b70_0 k e w := rfl
def r_sDodgesIn : List XO := [(.mv (.t 2)), (.mv (.t 3))]
theorem c_sDodgesIn : convF Try.prog [169, 170, 207, 208, 210, 227, 232, 233, 255, 259, 268, 269, 270, 280, 281, 296, 299, 306, 307, 309] Try.f70 [([0], []), ([0, 11], []), ([2, 3], []), ([0, 4], []), ([0, 4, 5], []), ([4, 5], [0]), ([0, 4, 5, 16], []), ([0, 4, 5, 6, 7, 8], []), ([0, 4, 5, 62], []), ([0, 4, 5], []), ([0, 4, 5], []), ([2, 3], [])] = some (x_sDodgesIn, r_sDodgesIn) := by kernel_rfl
def us_sDodgesIn := aI @u70_0 (aI @u70_1 (aI @u70_2 (aI @u70_3 (aI @u70_4 (aI @u70_5 (aI @u70_6 (aI @u70_7 (aI @u70_8 (aI @u70_9 (aI @u70_10 (aI @u70_11 @u70_12)))))))))))
abbrev b71_1 : X := (.cond (.t 8) (.seq (.reg [2, 3] (.c (.q 2 [] (.mv (.c (.slice none 0 0)))) (.c (.q 3 [] (.mv (.c (.bool false)))) .nil))) .ret) .skip)
def t71_1 := b71_1
theorem u71_1 : vcK P t71_1 k e w = vcK P b71_1 k e w := rfl
abbrev b71_2 : X := (.cond (.t 14) .skip (.exit 0))
def t71_2 := b71_2
theorem u71_2 : vcK P t71_2 k e w = vcK P b71_2 k e w := rfl
abbrev b71_3 : X := (.cond (.t 39) (.reg [0, 4, 5] (.c (.q 40 [] (.mv (.t 4))) (.c (.q 41 [] (.mv (.t 5))) (.c (.e (some 42) [] (.bsl 3 1 [(.t 41)])) (.c (.e (some 43) [] (.app 69 3 1 8 [(.int .i64 0)] 69 (.t 40) (.t 42))) (.c (.q 4 [] (.mv (.t 43))) .nil)))))) .skip)
def t71_3 := b71_3
theorem u71_3 : vcK P t71_3 k e w = vcK P b71_3 k e w := rfl
abbrev b71_4 : X := (.reg [0, 4, 5] (.c (.q 15 [] (.mv (.t 5))) (.c (.q 16 [] (.bin .add (.t 15) (.c (.int .i64 1)))) (.c (.q 5 [] (.mv (.t 16))) .nil))))
def t71_4 := b71_4
theorem u71_4 : vcK P t71_4 k e w = vcK P b71_4 k e w := rfl
abbrev b71_5 : X := (.seq (.blk 1 (.seq (.drw [0, 4, 5, 39] (.c (.q 17 [] (.mv (.t 0))) (.c (.q 18 [] (.mv (.t 5))) (.c (.q 19 [] (.bin .sub (.t 18) (.c (.int .i64 1)))) (.c (.q 20 [] (.ia 1 (.t 17) (.t 19))) (.c (.q 21 [] (.ld (.t 20))) (.c (.q 22 [] (.mv (.t 0))) (.c (.q 23 [] (.mv (.t 5))) (.c (.q 24 [] (.bin .add (.t 23) (.c (.int .i64 1)))) (.c (.q 25 [] (.ia 1 (.t 22) (.t 24))) (.c (.q 26 [] (.ld (.t 25))) (.c (.q 27 [] (.bin .eql (.t 21) (.t 26))) (.c (.q 28 [] (.mv (.t 27))) (.c (.q 29 [(28, true)] (.mv (.t 0))) (.c (.q 30 [(28, true)] (.mv (.t 5))) (.c (.q 31 [(28, true)] (.ia 1 (.t 29) (.t 30))) (.c (.q 32 [(28, true)] (.ld (.t 31))) (.c (.q 33 [(28, true)] (.mv (.t 0))) (.c (.q 34 [(28, true)] (.mv (.t 5))) (.c (.q 35 [(28, true)] (.bin .sub (.t 34) (.c (.int .i64 1)))) (.c (.q 36 [(28, true)] (.ia 1 (.t 33) (.t 35))) (.c (.q 37 [(28, true)] (.ld (.t 36))) (.c (.q 38 [(28, true)] (.bin .neq (.t 32) (.t 37))) (.c (.q 39 [] (.pick (.t 28) (.t 38) (.c (.bool false)))) .nil)))))))))))))))))))))))) t71_3)) t71_4)
def t71_5 := b71_5
theorem u71_5 : vcK P t71_5 k e w = vcK P b71_5 k e w := rfl
abbrev b71_6 : X := (.seq (.seq (.reg [0, 4, 5, 14] (.c (.q 10 [] (.mv (.t 5))) (.c (.q 11 [] (.bin .add (.t 10) (.c (.int .i64 1)))) (.c (.q 12 [] (.mv (.t 0))) (.c (.q 13 [] (.lens (.t 12))) (.c (.q 14 [] (.bin .lss (.t 11) (.t 13))) .nil)))))) t71_2) t71_5)
def t71_6 := b71_6
theorem u71_6 : vcK P t71_6 k e w = vcK P b71_6 k e w := rfl
abbrev b71_7 : X := (.blk 0 (.loop [4, 5] [0] t71_6))
def t71_7 := b71_7
theorem u71_7 : vcK P t71_7 k e w = vcK P b71_7 k e w := rfl
abbrev b71_8 : X := (.seq (.reg [2, 3] (.c (.q 44 [] (.mv (.t 4))) (.c (.q 2 [] (.mv (.t 44))) (.c (.q 3 [] (.mv (.c (.bool true)))) .nil)))) .ret)
def t71_8 := b71_8
theorem u71_8 : vcK P t71_8 k e w = vcK P b71_8 k e w := rfl
abbrev b71_9 : X := (.seq (.seq (.reg [0, 4, 5] (.c (.q 5 [] (.mv (.c (.int .i64 1)))) .nil)) t71_7) t71_8)
def t71_9 := b71_9
theorem u71_9 : vcK P t71_9 k e w = vcK P b71_9 k e w := rfl
abbrev b71_10 : X := (.seq (.reg [0, 4] (.c (.e (some 9) [] (.bsl 3 1 [])) (.c (.q 4 [] (.mv (.t 9))) .nil))) t71_9)
def t71_10 := b71_10
theorem u71_10 : vcK P t71_10 k e w = vcK P b71_10 k e w := rfl
abbrev b71_11 : X := (.seq (.seq (.reg [0, 8] (.c (.q 6 [] (.mv (.t 0))) (.c (.e (some 7) [] (.call false 211 [(.t 6)])) (.c (.q 8 [] (.not (.t 7))) .nil)))) t71_1) t71_10)
def t71_11 := b71_11
theorem u71_11 : vcK P t71_11 k e w = vcK P b71_11 k e w := rfl
abbrev b71_0 : X := (.seq (.reg [0] (.c (.q 2 [] (.mv (.c (.slice none 0 0)))) (.c (.q 3 [] (.mv (.c (.bool false)))) .nil))) t71_11)
def x_iPointsIn := b71_0
theorem u71_0 : vcK P x_iPointsIn k e w = vcK P b71_0 k e w := rfl
def r_iPointsIn : List XO := [(.mv (.t 2)), (.mv (.t 3))]
theorem c_iPointsIn : convF Try.prog [169, 170, 207, 208, 210, 227, 232, 233, 255, 259, 268, 269, 270, 280, 281, 296, 299, 306, 307, 309] Try.f71 [([0], []), ([0, 8], []), ([2, 3], []), ([0, 4], []), ([0, 4, 5], []), ([4, 5], [0]), ([0, 4, 5, 14], []), ([0, 4, 5, 39], []), ([0, 4, 5], []), ([0, 4, 5], []), ([2, 3], [])] = some (x_iPointsIn, r_iPointsIn) := by kernel_rfl
def us_iPointsIn := aI @u71_0 (aI @u71_1 (aI @u71_2 (aI @u71_3 (aI @u71_4 (aI @u71_5 (aI @u71_6 (aI @u71_7 (aI @u71_8 (aI @u71_9 (aI @u71_10 @u71_11))))))))))
abbrev b72_1 : X := (.cond (.t 8) (.seq (.reg [2, 3] (.c (.q 2 [] (.mv (.c (.slice none 0 0)))) (.c (.q 3 [] (.mv (.c (.bool false)))) .nil))) .ret) .skip)
def t72_1 := b72_1
theorem u72_1 : vcK P t72_1 k e w = vcK P b72_1 k e w := rfl
abbrev b72_2 : X := (.cond (.t 13) .skip (.exit 0))
def t72_2 := b72_2
theorem u72_2 : vcK P t72_2 k e w = vcK P b72_2 k e w := rfl
abbrev b72_3 : X := (.cond (.t 38) (.reg [0, 4, 5] (.c (.q 39 [] (.mv (.t 4))) (.c (.q 40 [] (.mv (.t 5))) (.c (.e (some 41) [] (.bsl 3 1 [(.t 40)])) (.c (.e (some 42) [] (.app 69 3 1 8 [(.int .i64 0)] 69 (.t 39) (.t 41))) (.c (.q 4 [] (.mv (.t 42))) .nil)))))) .skip)
def t72_3 := b72_3
theorem u72_3 : vcK P t72_3 k e w = vcK P b72_3 k e w := rfl
abbrev b72_4 : X := (.reg [0, 4, 5] (.c (.q 14 [] (.mv (.t 5))) (.c (.q 15 [] (.bin .add (.t 14) (.c (.int .i64 1)))) (.c (.q 5 [] (.mv (.t 15))) .nil))))
def t72_4 := b72_4
theorem u72_4 : vcK P t72_4 k e w = vcK P b72_4 k e w := rfl
abbrev b72_5 : X := (.seq (.blk 1 (.seq (.drw [0, 4, 5, 38] (.c (.q 16 [] (.mv (.t 0))) (.c (.q 17 [] (.mv (.t 5))) (.c (.q 18 [] (.bin .sub (.t 17) (.c (.int .i64 1)))) (.c (.q 19 [] (.ia 1 (.t 16) (.t 18))) (.c (.q 20 [] (.ld (.t 19))) (.c (.q 21 [] (.mv (.t 0))) (.c (.q 22 [] (.mv (.t 5))) (.c (.q 23 [] (.bin .add (.t 22) (.c (.int .i64 1)))) (.c (.q 24 [] (.ia 1 (.t 21) (.t 23))) (.c (.q 25 [] (.ld (.t 24))) (.c (.q 26 [] (.bin .eql (.t 20) (.t 25))) (.c (.q 27 [] (.mv (.t 26))) (.c (.q 28 [(27, true)] (.mv (.t 0))) (.c (.q 29 [(27, true)] (.mv (.t 5))) (.c (.q 30 [(27, true)] (.ia 1 (.t 28) (.t 29))) (.c (.q 31 [(27, true)] (.ld (.t 30))) (.c (.q 32 [(27, true)] (.mv (.t 0))) (.c (.q 33 [(27, true)] (.mv (.t 5))) (.c (.q 34 [(27, true)] (.bin .sub (.t 33) (.c (.int .i64 1)))) (.c (.q 35 [(27, true)] (.ia 1 (.t 32) (.t 34))) (.c (.q 36 [(27, true)] (.ld (.t 35))) (.c (.q 37 [(27, true)] (.bin .neq (.t 31) (.t 36))) (.c (.q 38 [] (.pick (.t 27) (.t 37) (.c (.bool false)))) .nil)))))))))))))))))))))))) t72_3)) t72_4)
def t72_5 := b72_5
theorem u72_5 : vcK P t72_5 k e w = vcK P b72_5 k e w := rfl
abbrev b72_6 : X := (.seq (.seq (.reg [0, 4, 5, 13] (.c (.q 9 [] (.mv (.t 5))) (.c (.q 10 [] (.bin .add (.t 9) (.c (.int .i64 1)))) (.c (.q 11 [] (.mv (.t 0))) (.c (.q 12 [] (.lens (.t 11))) (.c (.q 13 [] (.bin .lss (.t 10) (.t 12))) .nil)))))) t72_2) t72_5)
def t72_6 := b72_6
theorem u72_6 : vcK P t72_6 k e w = vcK P b72_6 k e w := rfl
abbrev b72_7 : X := (.blk 0 (.loop [4, 5] [0] t72_6))
def t72_7 := b72_7
theorem u72_7 : vcK P t72_7 k e w = vcK P b72_7 k e w := rfl
abbrev b72_8 : X := (.seq (.reg [2, 3] (.c (.q 43 [] (.mv (.t 4))) (.c (.q 2 [] (.mv (.t 43))) (.c (.q 3 [] (.mv (.c (.bool true)))) .nil)))) .ret)
def t72_8 := b72_8
theorem u72_8 : vcK P t72_8 k e w = vcK P b72_8 k e w := rfl
abbrev b72_9 : X := (.seq (.seq (.reg [0, 4, 5] (.c (.q 5 [] (.mv (.c (.int .i64 1)))) .nil)) t72_7) t72_8)
def t72_9 := b72_9
theorem u72_9 : vcK P t72_9 k e w = vcK P b72_9 k e w := rfl
abbrev b72_10 : X := (.seq (.reg [0, 4] (.c (.q 4 [] (.mv (.c (.slice none 0 0)))) .nil)) t72_9)
def t72_10 := b72_10
theorem u72_10 : vcK P t72_10 k e w = vcK P b72_10 k e w := rfl
abbrev b72_11 : X := (.seq (.seq (.reg [0, 8] (.c (.q 6 [] (.mv (.t 0))) (.c (.e (some 7) [] (.call false 212 [(.t 6)])) (.c (.q 8 [] (.not (.t 7))) .nil)))) t72_1) t72_10)
def t72_11 := b72_11
theorem u72_11 : vcK P t72_11 k e w = vcK P b72_11 k e w := rfl
abbrev b72_0 : X := (.seq (.reg [0] (.c (.q 2 [] (.mv (.c (.slice none 0 0)))) (.c (.q 3 [] (.mv (.c (.bool false)))) .nil))) t72_11)
def x_sPointsIn := b72_0
theorem u72_0 : vcK P x_sPointsIn k e w = vcK P b72_0 k e w := rfl
def r_sPointsIn : List XO := [(.mv (.t 2)), (.mv (.t 3))]
theorem c_sPointsIn : convF Try.prog [169, 170, 207, 208, 210, 227, 232, 233, 255, 259, 268, 269, 270, 280, 281, 296, 299, 306, 307, 309] Try.f72 [([0], []), ([0, 8], []), ([2, 3], []), ([0, 4], []), ([0, 4, 5], []), ([4, 5], [0]), ([0, 4, 5, 13], []), ([0, 4, 5, 38], []), ([0, 4, 5], []), ([0, 4, 5], []), ([2, 3], [])] = some (x_sPointsIn, r_sPointsIn) := by kernel_rfl
def us_sPointsIn := aI @u72_0 (aI @u72_1 (aI @u72_2 (aI @u72_3 (aI @u72_4 (aI @u72_5 (aI @u72_6 (aI @u72_7 (aI @u72_8 (aI @u72_9 (aI @u72_10 @u72_11))))))))))
end

/-- Is a list a path? -/
def IsPth (l : List Int) : Prop := (l.length ≤ 800 ∧ ∀ p ∈ l, 1 ≤ p ∧ p ≤ 8) ∧ ∀ i < l.length, 1 ≤ i → -1 ≤ l.getD i 0 - l.getD (i - 1) 0 ∧ l.getD i 0 - l.getD (i - 1) 0 ≤ 1
instance (l : List Int) : Decidable (IsPth l) := by unfold IsPth; infer_instance
theorem iisPath_ok (v : Value) (l : List Int) (hb : ∀ p ∈ l, -1000 ≤ p ∧ p ≤ 1000) (hl : l.length ≤ 1000000000) (w : World) (h : Sq fI 1 w v l) : Fn 211 [v] w (fun r _ => r = .bool (decide (IsPth l))) := by
  (refine callsV_of mix Try.func211 c_iisPath ?_; simp only [↓vsd, vsn, gW, qd, qv, ev, pick, argE, zipE, ne_eq, eq_self, forall_const, implies_true, if_true, if_false, reduceIte, reduceCtorEq, Nat.reduceEqDiff, Nat.reduceAdd, Nat.reduceLT, ↓us_iisPath, r_iisPath])
  simp only [↓vsd, vsn, gW, qd, qv, ev, pick, argE, zipE, ne_eq, eq_self, forall_const, implies_true, if_true, if_false, reduceIte, reduceCtorEq, Nat.reduceEqDiff, Nat.reduceAdd, Nat.reduceLT, ↓us_iisPath, r_iisPath, h.facts]
  refine ⟨fun hgt => ⟨Ext.refl _, by rw [decide_eq_false (fun hh => by have := hh.1.1; omega)]⟩, fun hle => ?_⟩
  refine m_upto l.length (fun i vs w' => vs = [.int .i64 i] ∧ (∀ j < i, 1 ≤ l.getD j 0 ∧ l.getD j 0 ≤ 8) ∧ (∀ j < i, 1 ≤ j → -1 ≤ l.getD j 0 - l.getD (j - 1) 0 ∧ l.getD j 0 - l.getD (j - 1) 0 ≤ 1) ∧ Ext w w') ⟨rfl, by simp, by simp, Ext.refl _⟩ ?_
  rintro i vs w1 hi ⟨rfl, ha, hs, hx1⟩
  have hq := h.ext hx1
  by_cases hlt : i < l.length
  · have hltI : (i : Int) < l.length := by omega
    have hltJ : ¬ (l.length : Int) ≤ i := by omega
    simp only [↓vsd, vsn, gW, qd, qv, ev, pick, argE, zipE, ne_eq, eq_self, forall_const, implies_true, if_true, if_false, reduceIte, reduceCtorEq, Nat.reduceEqDiff, Nat.reduceAdd, Nat.reduceLT, ↓us_iisPath, r_iisPath, hltI, hltJ, hq.facts, hq.at1 0 hlt]
    refine ⟨by omega, m_call (iisBell_ok 8 _ _) ?_⟩
    rintro _ w2 hx2 rfl
    have hx2 : Ext w1 w2 := by first | exact hx2 | exact ud hx2 | exact ud (ud hx2)
    have hx12 := hx1.trans hx2
    have hq2 := h.ext hx12
    have hpm := hb _ (getD_mem 0 hlt)
    by_cases hP : 1 ≤ l.getD i 0 ∧ l.getD i 0 ≤ 8
    · have hP1 := hP.1
      have hP2 := hP.2
      have ha' : ∀ j < i + 1, 1 ≤ l.getD j 0 ∧ l.getD j 0 ≤ 8 := fun j hj => by
        rcases Nat.lt_succ_iff_lt_or_eq.1 hj with h' | rfl
        · exact ha j h'
        · exact hP
      by_cases hi0 : i = 0
      · have hz : ¬ 0 < (i : Int) := by omega
        simp only [↓vsd, vsn, gW, qd, qv, ev, pick, argE, zipE, ne_eq, eq_self, forall_const, implies_true, if_true, if_false, reduceIte, reduceCtorEq, Nat.reduceEqDiff, Nat.reduceAdd, Nat.reduceLT, ↓us_iisPath, r_iisPath, hP1, hP2, hz]
        exact ⟨inR_i64 (by omega), UpTo.next hlt ⟨rfl, ha', fun j hj h1 => by omega, hx12⟩⟩
      · have hz : 0 < (i : Int) := by omega
        have hi1 : (i : Int) - 1 = ((i - 1 : Nat) : Int) := by omega
        have hlm : i - 1 < l.length := by omega
        have hpp := ha (i - 1) (by omega)
        have hq1' := hq2.at1 0 hlm
        have hD : decide (1 ≤ l.getD i 0) = true := decide_eq_true hP1
        have hD2 : decide (l.getD i 0 ≤ 8) = true := decide_eq_true hP2
        generalize hgp : l.getD i 0 = P at *
        generalize hgm : l.getD (i - 1) 0 = Q at *
        simp only [↓vsd, vsn, gW, qd, qv, ev, pick, argE, zipE, ne_eq, eq_self, forall_const, implies_true, if_true, if_false, reduceIte, reduceCtorEq, Nat.reduceEqDiff, Nat.reduceAdd, Nat.reduceLT, ↓us_iisPath, r_iisPath, hD, hD2, hz, hi1, hq2.facts, hq1']
        refine ⟨inR_i64 (by omega), by omega, inR_i64 (by omega), fun _ => inR_i64 (by omega), fun _ => by omega, fun _ => inR_i64 (by omega), fun hbad => ⟨hx12, ?_⟩, fun hok => ⟨inR_i64 (by omega), UpTo.next hlt ⟨rfl, ha', fun j hj h1 => ?_, hx12⟩⟩⟩
        · rw [decide_eq_false (fun hh => ?_)]
          have := hh.2 i hlt (by omega)
          rw [hgp, hgm] at this
          omega
        · rcases Nat.lt_succ_iff_lt_or_eq.1 hj with h' | rfl
          · exact hs j h' h1
          · rw [hgp, hgm]; omega
    · have hbD : (decide (1 ≤ l.getD i 0) && decide (l.getD i 0 ≤ 8)) = false := by rw [← Bool.decide_and]; exact decide_eq_false hP
      simp only [↓vsd, vsn, gW, qd, qv, ev, pick, argE, zipE, ne_eq, eq_self, forall_const, implies_true, if_true, if_false, reduceIte, reduceCtorEq, Nat.reduceEqDiff, Nat.reduceAdd, Nat.reduceLT, ↓us_iisPath, r_iisPath, hbD]
      exact ⟨hx12, by rw [decide_eq_false (fun hh => hP (hh.1.2 _ (getD_mem 0 hlt)))]⟩
  · obtain rfl : i = l.length := by omega
    have hltI : ¬ (l.length : Int) < l.length := by omega
    simp only [↓vsd, vsn, gW, qd, qv, ev, pick, argE, zipE, ne_eq, eq_self, forall_const, implies_true, if_true, if_false, reduceIte, reduceCtorEq, Nat.reduceEqDiff, Nat.reduceAdd, Nat.reduceLT, ↓us_iisPath, r_iisPath, hltI]
    have hok : IsPth l := ⟨⟨by omega, fun p hp => by
      obtain ⟨j, hj, rfl⟩ := List.getElem_of_mem hp
      have := ha j hj
      rw [List.getD_eq_getElem?_getD, List.getElem?_eq_getElem hj] at this
      exact this⟩, hs⟩
    exact ⟨hx1, by rw [decide_eq_true hok]⟩
theorem sl1All_okp (v : Value) (l : List Int) (lo hi : Int) (hl : l.length ≤ 1000000000) (w : World) (h : Sq fI 1 w v l) : Fn 226 [v, .int .i64 lo, .int .i64 hi] w (fun r _ => r = .bool (decide (∀ p ∈ l, lo ≤ p ∧ p ≤ hi))) := by
  (refine callsV_of mix Try.func226 c_sl1All ?_; simp only [↓vsd, vsn, gW, qd, qv, ev, pick, argE, zipE, ne_eq, eq_self, forall_const, implies_true, if_true, if_false, reduceIte, reduceCtorEq, Nat.reduceEqDiff, Nat.reduceAdd, Nat.reduceLT, ↓us_sl1All, r_sl1All])
  simp only [↓vsd, vsn, gW, qd, qv, ev, pick, argE, zipE, ne_eq, eq_self, forall_const, implies_true, if_true, if_false, reduceIte, reduceCtorEq, Nat.reduceEqDiff, Nat.reduceAdd, Nat.reduceLT, ↓us_sl1All, r_sl1All, h.facts]
  refine m_upto l.length (fun i vs w' => vs = [.int .i64 i] ∧ (∀ j < i, lo ≤ l.getD j 0 ∧ l.getD j 0 ≤ hi) ∧ Ext w w') ⟨rfl, by simp, Ext.refl _⟩ ?_
  rintro i vs w1 hi' ⟨rfl, ha, hx1⟩
  have hq := h.ext hx1
  by_cases hlt : i < l.length
  · have hltI : (i : Int) < l.length := by omega
    have hltJ : ¬ (l.length : Int) ≤ i := by omega
    simp only [↓vsd, vsn, gW, qd, qv, ev, pick, argE, zipE, ne_eq, eq_self, forall_const, implies_true, if_true, if_false, reduceIte, reduceCtorEq, Nat.reduceEqDiff, Nat.reduceAdd, Nat.reduceLT, ↓us_sl1All, r_sl1All, hltI, hltJ, hq.facts, hq.at1 0 hlt]
    refine ⟨by omega, m_call (sl1In_ok _ lo hi _) ?_⟩
    rintro _ w2 hx2 rfl
    by_cases hP : lo ≤ l.getD i 0 ∧ l.getD i 0 ≤ hi
    · have hD1 := hP.1
      have hD2 := hP.2
      simp only [↓vsd, vsn, gW, qd, qv, ev, pick, argE, zipE, ne_eq, eq_self, forall_const, implies_true, if_true, if_false, reduceIte, reduceCtorEq, Nat.reduceEqDiff, Nat.reduceAdd, Nat.reduceLT, ↓us_sl1All, r_sl1All, hD1, hD2]
      refine ⟨inR_i64 (by omega), UpTo.next hlt ⟨rfl, fun j hj => ?_, hx1.trans hx2⟩⟩
      rcases Nat.lt_succ_iff_lt_or_eq.1 hj with h' | rfl
      · exact ha j h'
      · exact hP
    · have hbD : (decide (lo ≤ l.getD i 0) && decide (l.getD i 0 ≤ hi)) = false := by rw [← Bool.decide_and]; exact decide_eq_false hP
      simp only [↓vsd, vsn, gW, qd, qv, ev, pick, argE, zipE, ne_eq, eq_self, forall_const, implies_true, if_true, if_false, reduceIte, reduceCtorEq, Nat.reduceEqDiff, Nat.reduceAdd, Nat.reduceLT, ↓us_sl1All, r_sl1All, hbD]
      exact ⟨hx1.trans hx2, by rw [decide_eq_false (fun hh => hP (hh _ (getD_mem 0 hlt)))]⟩
  · obtain rfl : i = l.length := by omega
    have hltI : ¬ (l.length : Int) < l.length := by omega
    simp only [↓vsd, vsn, gW, qd, qv, ev, pick, argE, zipE, ne_eq, eq_self, forall_const, implies_true, if_true, if_false, reduceIte, reduceCtorEq, Nat.reduceEqDiff, Nat.reduceAdd, Nat.reduceLT, ↓us_sl1All, r_sl1All, hltI]
    refine ⟨hx1, ?_⟩
    rw [decide_eq_true]
    intro p hp
    obtain ⟨j, hj, rfl⟩ := List.getElem_of_mem hp
    have := ha j hj
    rw [List.getD_eq_getElem?_getD, List.getElem?_eq_getElem hj] at this
    exact this
theorem sl5Good_ok (v : Value) (l : List Int) (hb : ∀ p ∈ l, -1000 ≤ p ∧ p ≤ 1000) (hl : l.length ≤ 1000000000) (w : World) (h : Sq fI 1 w v l) : Fn 212 [v] w (fun r _ => r = .bool (decide (IsPth l))) := by
  (refine callsV_of mix Try.func212 c_sl5Good ?_; simp only [↓vsd, vsn, gW, qd, qv, ev, pick, argE, zipE, ne_eq, eq_self, forall_const, implies_true, if_true, if_false, reduceIte, reduceCtorEq, Nat.reduceEqDiff, Nat.reduceAdd, Nat.reduceLT, ↓us_sl5Good, r_sl5Good])
  simp only [↓vsd, vsn, gW, qd, qv, ev, pick, argE, zipE, ne_eq, eq_self, forall_const, implies_true, if_true, if_false, reduceIte, reduceCtorEq, Nat.reduceEqDiff, Nat.reduceAdd, Nat.reduceLT, ↓us_sl5Good, r_sl5Good, h.facts]
  refine m_upto l.length (fun i vs w' => vs = [.int .i64 i] ∧ (∀ j < i, 1 ≤ j → -1 ≤ l.getD j 0 - l.getD (j - 1) 0 ∧ l.getD j 0 - l.getD (j - 1) 0 ≤ 1) ∧ Ext w w') ⟨rfl, by simp, Ext.refl _⟩ ?_
  rintro i vs w1 hi ⟨rfl, hs, hx1⟩
  have hq := h.ext hx1
  by_cases hlt : i < l.length
  · have hltI : (i : Int) < l.length := by omega
    have hltJ : ¬ (l.length : Int) ≤ i := by omega
    have hpm := hb _ (getD_mem 0 hlt)
    by_cases hi0 : i = 0
    · have hz : ¬ 0 < (i : Int) := by omega
      simp only [↓vsd, vsn, gW, qd, qv, ev, pick, argE, zipE, ne_eq, eq_self, forall_const, implies_true, if_true, if_false, reduceIte, reduceCtorEq, Nat.reduceEqDiff, Nat.reduceAdd, Nat.reduceLT, ↓us_sl5Good, r_sl5Good, hltI, hltJ, hq.facts, hq.at1 0 hlt, hz]
      exact ⟨by omega, inR_i64 (by omega), UpTo.next hlt ⟨rfl, fun j hj h1 => by omega, hx1⟩⟩
    · have hz : 0 < (i : Int) := by omega
      have hi1 : (i : Int) - 1 = ((i - 1 : Nat) : Int) := by omega
      have hlm : i - 1 < l.length := by omega
      have hqm := hb _ (getD_mem 0 hlm)
      simp only [↓vsd, vsn, gW, qd, qv, ev, pick, argE, zipE, ne_eq, eq_self, forall_const, implies_true, if_true, if_false, reduceIte, reduceCtorEq, Nat.reduceEqDiff, Nat.reduceAdd, Nat.reduceLT, ↓us_sl5Good, r_sl5Good, hltI, hltJ, hq.facts, hq.at1 0 hlt, hz, hi1, hq.at1 0 hlm]
      refine ⟨by omega, inR_i64 (by omega), by omega, inR_i64 (by omega), m_call (sl1In_ok _ (-1) 1 _) ?_⟩
      rintro _ w2 hx2 rfl
      by_cases hP : -1 ≤ l.getD i 0 - l.getD (i - 1) 0 ∧ l.getD i 0 - l.getD (i - 1) 0 ≤ 1
      · have hD1 := hP.1
        have hD2 := hP.2
        simp only [↓vsd, vsn, gW, qd, qv, ev, pick, argE, zipE, ne_eq, eq_self, forall_const, implies_true, if_true, if_false, reduceIte, reduceCtorEq, Nat.reduceEqDiff, Nat.reduceAdd, Nat.reduceLT, ↓us_sl5Good, r_sl5Good, hD1, hD2]
        refine ⟨inR_i64 (by omega), UpTo.next hlt ⟨rfl, fun j hj h1 => ?_, hx1.trans hx2⟩⟩
        rcases Nat.lt_succ_iff_lt_or_eq.1 hj with h' | rfl
        · exact hs j h' h1
        · exact hP
      · have hbD : (decide (-1 ≤ l.getD i 0 - l.getD (i - 1) 0) && decide (l.getD i 0 - l.getD (i - 1) 0 ≤ 1)) = false := by rw [← Bool.decide_and]; exact decide_eq_false hP
        simp only [↓vsd, vsn, gW, qd, qv, ev, pick, argE, zipE, ne_eq, eq_self, forall_const, implies_true, if_true, if_false, reduceIte, reduceCtorEq, Nat.reduceEqDiff, Nat.reduceAdd, Nat.reduceLT, ↓us_sl5Good, r_sl5Good, hbD]
        exact ⟨hx1.trans hx2, by rw [decide_eq_false (fun hh => hP (hh.2 i hlt (by omega)))]⟩
  · obtain rfl : i = l.length := by omega
    have hltI : ¬ (l.length : Int) < l.length := by omega
    simp only [↓vsd, vsn, gW, qd, qv, ev, pick, argE, zipE, ne_eq, eq_self, forall_const, implies_true, if_true, if_false, reduceIte, reduceCtorEq, Nat.reduceEqDiff, Nat.reduceAdd, Nat.reduceLT, ↓us_sl5Good, r_sl5Good, hltI, hq.facts]
    refine ⟨fun hle => m_call (sl1All_okp v l 1 8 hl _ hq) ?_, fun hgt => ⟨hx1, by rw [decide_eq_false (fun hh => by have := hh.1.1; omega)]⟩⟩
    rintro _ w2 hx2 rfl
    have hle' : (l.length : Int) ≤ 800 := hle
    simp only [↓vsd, vsn, gW, qd, qv, ev, pick, argE, zipE, ne_eq, eq_self, forall_const, implies_true, if_true, if_false, reduceIte, reduceCtorEq, Nat.reduceEqDiff, Nat.reduceAdd, Nat.reduceLT, ↓us_sl5Good, r_sl5Good, hle']
    refine ⟨hx1.trans hx2, ?_⟩
    exact (decide_eq_decide.2 ⟨fun hh => ⟨⟨by omega, hh⟩, hs⟩, fun hh => hh.1.2⟩)
/-- The indices below k with P. -/
def idxF (P : Nat → Bool) (k : Nat) : List Int := ((List.range k).filter P).map fun i : Nat => (i : Int)
theorem idxF_succ (P : Nat → Bool) (k : Nat) : idxF P (k + 1) = idxF P k ++ if P k = true then [(k : Int)] else [] := by
  unfold idxF
  rw [List.range_succ, List.filter_append, List.map_append]
  by_cases h : P k = true <;> simp [h]
theorem idxF_len (P : Nat → Bool) (k : Nat) : (idxF P k).length ≤ k := by
  unfold idxF
  rw [List.length_map]
  exact Nat.le_trans (List.length_filter_le _ _) (by simp)
def ptP (l : List Int) (i : Nat) : Bool := decide (1 ≤ i ∧ l.getD (i - 1) 0 = l.getD (i + 1) 0 ∧ l.getD i 0 ≠ l.getD (i - 1) 0)
def ptL (l : List Int) : List Int := if IsPth l then idxF (ptP l) (l.length - 2 + 1) else []
def doP (l : List Int) (i : Nat) : Bool := decide (1 ≤ i ∧ l.getD i 0 - l.getD (i - 1) 0 ≠ 0 ∧ l.getD (i + 1) 0 - l.getD i 0 = -(l.getD i 0 - l.getD (i - 1) 0) ∧ l.getD (i + 2) 0 - l.getD (i + 1) 0 = l.getD i 0 - l.getD (i - 1) 0)
def doL (l : List Int) : List Int := if IsPth l then idxF (doP l) (l.length - 3 + 1) else []
theorem iPointsIn_ok (v : Value) (l : List Int) (hb : ∀ p ∈ l, -1000 ≤ p ∧ p ≤ 1000) (hl : l.length ≤ 1000000000) (w : World) (h : Sq fI 1 w v l) : Fn 71 [v] w (fun r w' => ∃ x, r = .tuple ⟨[x, .bool (decide (IsPth l))]⟩ ∧ Own fI 1 3 w.heap.size w' x (ptL l)) := by
  (refine callsV_of mix Try.func71 c_iPointsIn ?_; simp only [↓vsd, vsn, gW, qd, qv, ev, pick, argE, zipE, ne_eq, eq_self, forall_const, implies_true, if_true, if_false, reduceIte, reduceCtorEq, Nat.reduceEqDiff, Nat.reduceAdd, Nat.reduceLT, ↓us_iPointsIn, r_iPointsIn])
  refine m_call (iisPath_ok v l hb hl _ h) ?_
  rintro _ w1 hx1 rfl
  by_cases hP : IsPth l
  · have hD := decide_eq_true hP
    simp only [↓vsd, vsn, gW, qd, qv, ev, pick, argE, zipE, ne_eq, eq_self, forall_const, implies_true, if_true, if_false, reduceIte, reduceCtorEq, Nat.reduceEqDiff, Nat.reduceAdd, Nat.reduceLT, ↓us_iPointsIn, r_iPointsIn, hD]
    refine m_bsl (by simp) ?_
    rintro b2 w2 hb2 hblk2 hx2 hs2
    have hx12 := hx1.trans hx2
    simp only [↓vsd, vsn, gW, qd, qv, ev, pick, argE, zipE, ne_eq, eq_self, forall_const, implies_true, if_true, if_false, reduceIte, reduceCtorEq, Nat.reduceEqDiff, Nat.reduceAdd, Nat.reduceLT, ↓us_iPointsIn, r_iPointsIn]
    refine m_upto (l.length - 2) (fun k vs w' => ∃ y, vs = [y, .int .i64 (k + 1 : Nat)] ∧ Own fI 1 3 w.heap.size w' y (idxF (ptP l) (k + 1)) ∧ Ext w w') ⟨_, rfl, (Own.empty fI_len hblk2 (by have := hx1.size; omega)).to (by simp [idxF, ptP, List.range_succ]), hx12⟩ ?_
    rintro k vs w3 hk ⟨y, rfl, ho3, hx3⟩
    have hq := h.ext hx3
    have hil := idxF_len (ptP l) (k + 1)
    have h800 := hP.1.1
    by_cases hlt : k < l.length - 2
    · have hltI : ((k + 1 : Nat) : Int) + 1 < l.length := by omega
      have h0 : k < l.length := by omega
      have h1 : k + 1 < l.length := by omega
      have h2 : k + 2 < l.length := by omega
      have e0 : ((k + 1 : Nat) : Int) - 1 = (k : Int) := by omega
      have e2 : ((k + 1 : Nat) : Int) + 1 = ((k + 2 : Nat) : Int) := by omega
      rw [e2] at hltI
      simp only [↓vsd, vsn, gW, qd, qv, ev, pick, argE, zipE, ne_eq, eq_self, forall_const, implies_true, if_true, if_false, reduceIte, reduceCtorEq, Nat.reduceEqDiff, Nat.reduceAdd, Nat.reduceLT, ↓us_iPointsIn, r_iPointsIn, e0, e2, hltI, hq.facts, hq.at1 0 h0, hq.at1 0 h1, hq.at1 0 h2]
      refine ⟨inR_i64 (by omega), inR_i64 (by omega), by omega, inR_i64 (by omega), by omega, fun _ => by omega, fun _ => inR_i64 (by omega), fun _ => by omega, fun hc => m_bsl (one_el rfl) ?_, fun hc => ?_⟩
      · rintro b4 w4 hb4 hblk4 hx4 hs4
        have hx4 : Ext w3 w4 := by first | exact hx4 | exact ud hx4 | exact ud (ud hx4)
        simp only [↓vsd, vsn, gW, qd, qv, ev, pick, argE, zipE, ne_eq, eq_self, forall_const, implies_true, if_true, if_false, reduceIte, reduceCtorEq, Nat.reduceEqDiff, Nat.reduceAdd, Nat.reduceLT, ↓us_iPointsIn, r_iPointsIn]
        refine m_app (ho3.ext hx4) (Sq.one fI_len hblk4 rfl) fI_one (by decide) (by simp; omega) (by decide) (hx3.trans hx4).size ?_
        rintro y5 w5 ho5 hg5
        have hx5 := (ho3.ext hx4).grown (hx3.trans hx4) (Nat.le_refl _) hg5
        simp only [↓vsd, vsn, gW, qd, qv, ev, pick, argE, zipE, ne_eq, eq_self, forall_const, implies_true, if_true, if_false, reduceIte, reduceCtorEq, Nat.reduceEqDiff, Nat.reduceAdd, Nat.reduceLT, ↓us_iPointsIn, r_iPointsIn, e2]
        have hp : ptP l (k + 1) = true := decide_eq_true ⟨by omega, by rw [Nat.add_sub_cancel]; exact hc.1, by rw [Nat.add_sub_cancel]; exact hc.2⟩
        exact ⟨inR_i64 (by omega), UpTo.next hlt ⟨y5, rfl, ho5.to (by rw [idxF_succ (ptP l) (k + 1), if_pos hp]), hx5⟩⟩
      · have hp : ptP l (k + 1) ≠ true := fun hh => by
          have := of_decide_eq_true hh
          rw [Nat.add_sub_cancel] at this
          exact hc this.2
        refine ⟨inR_i64 (by omega), UpTo.next hlt ⟨y, rfl, ho3.to (by rw [idxF_succ (ptP l) (k + 1), if_neg hp, List.append_nil]), by first | exact hx3 | exact dr hx3⟩⟩
    · have hltI : ¬ ((k + 2 : Nat) : Int) < l.length := by omega
      have e2 : ((k + 1 : Nat) : Int) + 1 = ((k + 2 : Nat) : Int) := by omega
      obtain rfl : k = l.length - 2 := by omega
      simp only [↓vsd, vsn, gW, qd, qv, ev, pick, argE, zipE, ne_eq, eq_self, forall_const, implies_true, if_true, if_false, reduceIte, reduceCtorEq, Nat.reduceEqDiff, Nat.reduceAdd, Nat.reduceLT, ↓us_iPointsIn, r_iPointsIn, e2, hltI, hq.facts]
      exact ⟨inR_i64 (by omega), hx3, y, rfl, by rw [ptL, if_pos hP]; exact ho3⟩
  · have hD := decide_eq_false hP
    simp only [↓vsd, vsn, gW, qd, qv, ev, pick, argE, zipE, ne_eq, eq_self, forall_const, implies_true, if_true, if_false, reduceIte, reduceCtorEq, Nat.reduceEqDiff, Nat.reduceAdd, Nat.reduceLT, ↓us_iPointsIn, r_iPointsIn, hD]
    exact ⟨hx1, _, rfl, by rw [ptL, if_neg hP]; exact Own.nil fI_len⟩
theorem sPointsIn_ok (v : Value) (l : List Int) (hb : ∀ p ∈ l, -1000 ≤ p ∧ p ≤ 1000) (hl : l.length ≤ 1000000000) (w : World) (h : Sq fI 1 w v l) : Fn 72 [v] w (fun r w' => ∃ x, r = .tuple ⟨[x, .bool (decide (IsPth l))]⟩ ∧ Own fI 1 3 w.heap.size w' x (ptL l)) := by
  (refine callsV_of mix Try.func72 c_sPointsIn ?_; simp only [↓vsd, vsn, gW, qd, qv, ev, pick, argE, zipE, ne_eq, eq_self, forall_const, implies_true, if_true, if_false, reduceIte, reduceCtorEq, Nat.reduceEqDiff, Nat.reduceAdd, Nat.reduceLT, ↓us_sPointsIn, r_sPointsIn])
  refine m_call (sl5Good_ok v l hb hl _ h) ?_
  rintro _ w1 hx1 rfl
  by_cases hP : IsPth l
  · have hD := decide_eq_true hP
    simp only [↓vsd, vsn, gW, qd, qv, ev, pick, argE, zipE, ne_eq, eq_self, forall_const, implies_true, if_true, if_false, reduceIte, reduceCtorEq, Nat.reduceEqDiff, Nat.reduceAdd, Nat.reduceLT, ↓us_sPointsIn, r_sPointsIn, hD]
    refine m_upto (l.length - 2) (fun k vs w' => ∃ y, vs = [y, .int .i64 (k + 1 : Nat)] ∧ Own fI 1 3 w.heap.size w' y (idxF (ptP l) (k + 1)) ∧ Ext w w') ⟨_, rfl, (Own.nil fI_len).to (by simp [idxF, ptP, List.range_succ]), hx1⟩ ?_
    rintro k vs w3 hk ⟨y, rfl, ho3, hx3⟩
    have hq := h.ext hx3
    have hil := idxF_len (ptP l) (k + 1)
    have h800 := hP.1.1
    by_cases hlt : k < l.length - 2
    · have hltI : ((k + 1 : Nat) : Int) + 1 < l.length := by omega
      have h0 : k < l.length := by omega
      have h1 : k + 1 < l.length := by omega
      have h2 : k + 2 < l.length := by omega
      have e0 : ((k + 1 : Nat) : Int) - 1 = (k : Int) := by omega
      have e2 : ((k + 1 : Nat) : Int) + 1 = ((k + 2 : Nat) : Int) := by omega
      rw [e2] at hltI
      simp only [↓vsd, vsn, gW, qd, qv, ev, pick, argE, zipE, ne_eq, eq_self, forall_const, implies_true, if_true, if_false, reduceIte, reduceCtorEq, Nat.reduceEqDiff, Nat.reduceAdd, Nat.reduceLT, ↓us_sPointsIn, r_sPointsIn, e0, e2, hltI, hq.facts, hq.at1 0 h0, hq.at1 0 h1, hq.at1 0 h2]
      refine ⟨inR_i64 (by omega), inR_i64 (by omega), by omega, inR_i64 (by omega), by omega, fun _ => by omega, fun _ => inR_i64 (by omega), fun _ => by omega, fun hc => m_bsl (one_el rfl) ?_, fun hc => ?_⟩
      · rintro b4 w4 hb4 hblk4 hx4 hs4
        have hx4 : Ext w3 w4 := by first | exact hx4 | exact ud hx4 | exact ud (ud hx4)
        simp only [↓vsd, vsn, gW, qd, qv, ev, pick, argE, zipE, ne_eq, eq_self, forall_const, implies_true, if_true, if_false, reduceIte, reduceCtorEq, Nat.reduceEqDiff, Nat.reduceAdd, Nat.reduceLT, ↓us_sPointsIn, r_sPointsIn]
        refine m_app (ho3.ext hx4) (Sq.one fI_len hblk4 rfl) fI_one (by decide) (by simp; omega) (by decide) (hx3.trans hx4).size ?_
        rintro y5 w5 ho5 hg5
        have hx5 := (ho3.ext hx4).grown (hx3.trans hx4) (Nat.le_refl _) hg5
        simp only [↓vsd, vsn, gW, qd, qv, ev, pick, argE, zipE, ne_eq, eq_self, forall_const, implies_true, if_true, if_false, reduceIte, reduceCtorEq, Nat.reduceEqDiff, Nat.reduceAdd, Nat.reduceLT, ↓us_sPointsIn, r_sPointsIn, e2]
        have hp : ptP l (k + 1) = true := decide_eq_true ⟨by omega, by rw [Nat.add_sub_cancel]; exact hc.1, by rw [Nat.add_sub_cancel]; exact hc.2⟩
        exact ⟨inR_i64 (by omega), UpTo.next hlt ⟨y5, rfl, ho5.to (by rw [idxF_succ (ptP l) (k + 1), if_pos hp]), hx5⟩⟩
      · have hp : ptP l (k + 1) ≠ true := fun hh => by
          have := of_decide_eq_true hh
          rw [Nat.add_sub_cancel] at this
          exact hc this.2
        refine ⟨inR_i64 (by omega), UpTo.next hlt ⟨y, rfl, ho3.to (by rw [idxF_succ (ptP l) (k + 1), if_neg hp, List.append_nil]), by first | exact hx3 | exact dr hx3⟩⟩
    · have hltI : ¬ ((k + 2 : Nat) : Int) < l.length := by omega
      have e2 : ((k + 1 : Nat) : Int) + 1 = ((k + 2 : Nat) : Int) := by omega
      obtain rfl : k = l.length - 2 := by omega
      simp only [↓vsd, vsn, gW, qd, qv, ev, pick, argE, zipE, ne_eq, eq_self, forall_const, implies_true, if_true, if_false, reduceIte, reduceCtorEq, Nat.reduceEqDiff, Nat.reduceAdd, Nat.reduceLT, ↓us_sPointsIn, r_sPointsIn, e2, hltI, hq.facts]
      exact ⟨inR_i64 (by omega), hx3, y, rfl, by rw [ptL, if_pos hP]; exact ho3⟩
  · have hD := decide_eq_false hP
    simp only [↓vsd, vsn, gW, qd, qv, ev, pick, argE, zipE, ne_eq, eq_self, forall_const, implies_true, if_true, if_false, reduceIte, reduceCtorEq, Nat.reduceEqDiff, Nat.reduceAdd, Nat.reduceLT, ↓us_sPointsIn, r_sPointsIn, hD]
    exact ⟨hx1, _, rfl, by rw [ptL, if_neg hP]; exact Own.nil fI_len⟩
theorem iDodgesIn_ok (v : Value) (l : List Int) (hb : ∀ p ∈ l, -1000 ≤ p ∧ p ≤ 1000) (hl : l.length ≤ 1000000000) (w : World) (h : Sq fI 1 w v l) : Fn 69 [v] w (fun r w' => ∃ x, r = .tuple ⟨[x, .bool (decide (IsPth l))]⟩ ∧ Own fI 1 3 w.heap.size w' x (doL l)) := by
  (refine callsV_of mix Try.func69 c_iDodgesIn ?_; simp only [↓vsd, vsn, gW, qd, qv, ev, pick, argE, zipE, ne_eq, eq_self, forall_const, implies_true, if_true, if_false, reduceIte, reduceCtorEq, Nat.reduceEqDiff, Nat.reduceAdd, Nat.reduceLT, ↓us_iDodgesIn, r_iDodgesIn])
  refine m_call (iisPath_ok v l hb hl _ h) ?_
  rintro _ w1 hx1 rfl
  by_cases hP : IsPth l
  · have hD := decide_eq_true hP
    simp only [↓vsd, vsn, gW, qd, qv, ev, pick, argE, zipE, ne_eq, eq_self, forall_const, implies_true, if_true, if_false, reduceIte, reduceCtorEq, Nat.reduceEqDiff, Nat.reduceAdd, Nat.reduceLT, ↓us_iDodgesIn, r_iDodgesIn, hD]
    refine m_bsl (by simp) ?_
    rintro b2 w2 hb2 hblk2 hx2 hs2
    have hx12 := hx1.trans hx2
    simp only [↓vsd, vsn, gW, qd, qv, ev, pick, argE, zipE, ne_eq, eq_self, forall_const, implies_true, if_true, if_false, reduceIte, reduceCtorEq, Nat.reduceEqDiff, Nat.reduceAdd, Nat.reduceLT, ↓us_iDodgesIn, r_iDodgesIn]
    refine m_upto (l.length - 3) (fun k vs w' => ∃ y, vs = [y, .int .i64 (k + 1 : Nat)] ∧ Own fI 1 3 w.heap.size w' y (idxF (doP l) (k + 1)) ∧ Ext w w') ⟨_, rfl, (Own.empty fI_len hblk2 (by have := hx1.size; omega)).to (by simp [idxF, doP, List.range_succ]), hx12⟩ ?_
    rintro k vs w3 hk ⟨y, rfl, ho3, hx3⟩
    have hq := h.ext hx3
    have hil := idxF_len (doP l) (k + 1)
    have h800 := hP.1.1
    by_cases hlt : k < l.length - 3
    · have hltI : ((k + 3 : Nat) : Int) < l.length := by omega
      have h0 : k < l.length := by omega
      have h1 : k + 1 < l.length := by omega
      have h2 : k + 2 < l.length := by omega
      have h3 : k + 3 < l.length := by omega
      have e0 : ((k + 1 : Nat) : Int) - 1 = (k : Int) := by omega
      have e2 : ((k + 1 : Nat) : Int) + 1 = ((k + 2 : Nat) : Int) := by omega
      have e3 : ((k + 1 : Nat) : Int) + 2 = ((k + 3 : Nat) : Int) := by omega
      have p0 := hP.1.2 _ (getD_mem 0 h0)
      have p1 := hP.1.2 _ (getD_mem 0 h1)
      have p2 := hP.1.2 _ (getD_mem 0 h2)
      have p3 := hP.1.2 _ (getD_mem 0 h3)
      simp only [↓vsd, vsn, gW, qd, qv, ev, pick, argE, zipE, ne_eq, eq_self, forall_const, implies_true, if_true, if_false, reduceIte, reduceCtorEq, Nat.reduceEqDiff, Nat.reduceAdd, Nat.reduceLT, ↓us_iDodgesIn, r_iDodgesIn, e0, e2, e3, hltI, hq.facts, hq.at1 0 h0, hq.at1 0 h1, hq.at1 0 h2, hq.at1 0 h3]
      refine ⟨inR_i64 (by omega), by omega, inR_i64 (by omega), by omega, inR_i64 (by omega), inR_i64 (by omega), by omega, by omega, inR_i64 (by omega), inR_i64 (by omega), by omega, inR_i64 (by omega), by omega, inR_i64 (by omega), fun _ => inR_i64 (by omega), fun hc => m_bsl (one_el rfl) ?_, fun hc => ?_⟩
      · rintro b4 w4 hb4 hblk4 hx4 hs4
        have hx4 : Ext w3 w4 := by first | exact hx4 | exact ud hx4 | exact ud (ud hx4)
        simp only [↓vsd, vsn, gW, qd, qv, ev, pick, argE, zipE, ne_eq, eq_self, forall_const, implies_true, if_true, if_false, reduceIte, reduceCtorEq, Nat.reduceEqDiff, Nat.reduceAdd, Nat.reduceLT, ↓us_iDodgesIn, r_iDodgesIn]
        refine m_app (ho3.ext hx4) (Sq.one fI_len hblk4 rfl) fI_one (by decide) (by simp; omega) (by decide) (hx3.trans hx4).size ?_
        rintro y5 w5 ho5 hg5
        have hx5 := (ho3.ext hx4).grown (hx3.trans hx4) (Nat.le_refl _) hg5
        simp only [↓vsd, vsn, gW, qd, qv, ev, pick, argE, zipE, ne_eq, eq_self, forall_const, implies_true, if_true, if_false, reduceIte, reduceCtorEq, Nat.reduceEqDiff, Nat.reduceAdd, Nat.reduceLT, ↓us_iDodgesIn, r_iDodgesIn, e2]
        have hp : doP l (k + 1) = true := decide_eq_true ⟨by omega, by rw [Nat.add_sub_cancel]; exact hc.1.1, by rw [Nat.add_sub_cancel]; show l.getD (k + 2) 0 - l.getD (k + 1) 0 = -(l.getD (k + 1) 0 - l.getD k 0); have := hc.1.2; omega, by rw [Nat.add_sub_cancel]; exact hc.2⟩
        exact ⟨inR_i64 (by omega), UpTo.next hlt ⟨y5, rfl, ho5.to (by rw [idxF_succ (doP l) (k + 1), if_pos hp]), hx5⟩⟩
      · have hp : doP l (k + 1) ≠ true := fun hh => by
          have := of_decide_eq_true hh
          rw [Nat.add_sub_cancel] at this
          exact hc ⟨⟨this.2.1, by have h4 : l.getD (k + 2) 0 - l.getD (k + 1) 0 = -(l.getD (k + 1) 0 - l.getD k 0) := this.2.2.1; omega⟩, this.2.2.2⟩
        refine ⟨inR_i64 (by omega), UpTo.next hlt ⟨y, rfl, ho3.to (by rw [idxF_succ (doP l) (k + 1), if_neg hp, List.append_nil]), by first | exact hx3 | exact dr hx3⟩⟩
    · have hltI : ¬ ((k + 3 : Nat) : Int) < l.length := by omega
      have e3 : ((k + 1 : Nat) : Int) + 2 = ((k + 3 : Nat) : Int) := by omega
      obtain rfl : k = l.length - 3 := by omega
      simp only [↓vsd, vsn, gW, qd, qv, ev, pick, argE, zipE, ne_eq, eq_self, forall_const, implies_true, if_true, if_false, reduceIte, reduceCtorEq, Nat.reduceEqDiff, Nat.reduceAdd, Nat.reduceLT, ↓us_iDodgesIn, r_iDodgesIn, e3, hltI, hq.facts]
      exact ⟨inR_i64 (by omega), hx3, y, rfl, by rw [doL, if_pos hP]; exact ho3⟩
  · have hD := decide_eq_false hP
    simp only [↓vsd, vsn, gW, qd, qv, ev, pick, argE, zipE, ne_eq, eq_self, forall_const, implies_true, if_true, if_false, reduceIte, reduceCtorEq, Nat.reduceEqDiff, Nat.reduceAdd, Nat.reduceLT, ↓us_iDodgesIn, r_iDodgesIn, hD]
    exact ⟨hx1, _, rfl, by rw [doL, if_neg hP]; exact Own.nil fI_len⟩
theorem sDodgesIn_ok (v : Value) (l : List Int) (hb : ∀ p ∈ l, -1000 ≤ p ∧ p ≤ 1000) (hl : l.length ≤ 1000000000) (w : World) (h : Sq fI 1 w v l) : Fn 70 [v] w (fun r w' => ∃ x, r = .tuple ⟨[x, .bool (decide (IsPth l))]⟩ ∧ Own fI 1 3 w.heap.size w' x (doL l)) := by
  (refine callsV_of mix Try.func70 c_sDodgesIn ?_; simp only [↓vsd, vsn, gW, qd, qv, ev, pick, argE, zipE, ne_eq, eq_self, forall_const, implies_true, if_true, if_false, reduceIte, reduceCtorEq, Nat.reduceEqDiff, Nat.reduceAdd, Nat.reduceLT, ↓us_sDodgesIn, r_sDodgesIn])
  refine m_call (sl5Good_ok v l hb hl _ h) ?_
  rintro _ w1 hx1 rfl
  by_cases hP : IsPth l
  · have hD := decide_eq_true hP
    simp only [↓vsd, vsn, gW, qd, qv, ev, pick, argE, zipE, ne_eq, eq_self, forall_const, implies_true, if_true, if_false, reduceIte, reduceCtorEq, Nat.reduceEqDiff, Nat.reduceAdd, Nat.reduceLT, ↓us_sDodgesIn, r_sDodgesIn, hD]
    refine m_upto (l.length - 3) (fun k vs w' => ∃ y, vs = [y, .int .i64 (k + 1 : Nat)] ∧ Own fI 1 3 w.heap.size w' y (idxF (doP l) (k + 1)) ∧ Ext w w') ⟨_, rfl, (Own.nil fI_len).to (by simp [idxF, doP, List.range_succ]), hx1⟩ ?_
    rintro k vs w3 hk ⟨y, rfl, ho3, hx3⟩
    have hq := h.ext hx3
    have hil := idxF_len (doP l) (k + 1)
    have h800 := hP.1.1
    by_cases hlt : k < l.length - 3
    · have hltI : ((k + 3 : Nat) : Int) < l.length := by omega
      have h0 : k < l.length := by omega
      have h1 : k + 1 < l.length := by omega
      have h2 : k + 2 < l.length := by omega
      have h3 : k + 3 < l.length := by omega
      have e0 : ((k + 1 : Nat) : Int) - 1 = (k : Int) := by omega
      have e2 : ((k + 1 : Nat) : Int) + 1 = ((k + 2 : Nat) : Int) := by omega
      have e3 : ((k + 1 : Nat) : Int) + 2 = ((k + 3 : Nat) : Int) := by omega
      have p0 := hP.1.2 _ (getD_mem 0 h0)
      have p1 := hP.1.2 _ (getD_mem 0 h1)
      have p2 := hP.1.2 _ (getD_mem 0 h2)
      have p3 := hP.1.2 _ (getD_mem 0 h3)
      simp only [↓vsd, vsn, gW, qd, qv, ev, pick, argE, zipE, ne_eq, eq_self, forall_const, implies_true, if_true, if_false, reduceIte, reduceCtorEq, Nat.reduceEqDiff, Nat.reduceAdd, Nat.reduceLT, ↓us_sDodgesIn, r_sDodgesIn, e0, e2, e3, hltI, hq.facts, hq.at1 0 h0, hq.at1 0 h1, hq.at1 0 h2, hq.at1 0 h3]
      refine ⟨inR_i64 (by omega), by omega, inR_i64 (by omega), by omega, inR_i64 (by omega), inR_i64 (by omega), by omega, by omega, inR_i64 (by omega), inR_i64 (by omega), by omega, inR_i64 (by omega), by omega, inR_i64 (by omega), fun _ => inR_i64 (by omega), fun hc => m_bsl (one_el rfl) ?_, fun hc => ?_⟩
      · rintro b4 w4 hb4 hblk4 hx4 hs4
        have hx4 : Ext w3 w4 := by first | exact hx4 | exact ud hx4 | exact ud (ud hx4)
        simp only [↓vsd, vsn, gW, qd, qv, ev, pick, argE, zipE, ne_eq, eq_self, forall_const, implies_true, if_true, if_false, reduceIte, reduceCtorEq, Nat.reduceEqDiff, Nat.reduceAdd, Nat.reduceLT, ↓us_sDodgesIn, r_sDodgesIn]
        refine m_app (ho3.ext hx4) (Sq.one fI_len hblk4 rfl) fI_one (by decide) (by simp; omega) (by decide) (hx3.trans hx4).size ?_
        rintro y5 w5 ho5 hg5
        have hx5 := (ho3.ext hx4).grown (hx3.trans hx4) (Nat.le_refl _) hg5
        simp only [↓vsd, vsn, gW, qd, qv, ev, pick, argE, zipE, ne_eq, eq_self, forall_const, implies_true, if_true, if_false, reduceIte, reduceCtorEq, Nat.reduceEqDiff, Nat.reduceAdd, Nat.reduceLT, ↓us_sDodgesIn, r_sDodgesIn, e2]
        have hp : doP l (k + 1) = true := decide_eq_true ⟨by omega, by rw [Nat.add_sub_cancel]; exact hc.1.1, by rw [Nat.add_sub_cancel]; show l.getD (k + 2) 0 - l.getD (k + 1) 0 = -(l.getD (k + 1) 0 - l.getD k 0); have := hc.1.2; omega, by rw [Nat.add_sub_cancel]; exact hc.2⟩
        exact ⟨inR_i64 (by omega), UpTo.next hlt ⟨y5, rfl, ho5.to (by rw [idxF_succ (doP l) (k + 1), if_pos hp]), hx5⟩⟩
      · have hp : doP l (k + 1) ≠ true := fun hh => by
          have := of_decide_eq_true hh
          rw [Nat.add_sub_cancel] at this
          exact hc ⟨⟨this.2.1, by have h4 : l.getD (k + 2) 0 - l.getD (k + 1) 0 = -(l.getD (k + 1) 0 - l.getD k 0) := this.2.2.1; omega⟩, this.2.2.2⟩
        refine ⟨inR_i64 (by omega), UpTo.next hlt ⟨y, rfl, ho3.to (by rw [idxF_succ (doP l) (k + 1), if_neg hp, List.append_nil]), by first | exact hx3 | exact dr hx3⟩⟩
    · have hltI : ¬ ((k + 3 : Nat) : Int) < l.length := by omega
      have e3 : ((k + 1 : Nat) : Int) + 2 = ((k + 3 : Nat) : Int) := by omega
      obtain rfl : k = l.length - 3 := by omega
      simp only [↓vsd, vsn, gW, qd, qv, ev, pick, argE, zipE, ne_eq, eq_self, forall_const, implies_true, if_true, if_false, reduceIte, reduceCtorEq, Nat.reduceEqDiff, Nat.reduceAdd, Nat.reduceLT, ↓us_sDodgesIn, r_sDodgesIn, e3, hltI, hq.facts]
      exact ⟨inR_i64 (by omega), hx3, y, rfl, by rw [doL, if_pos hP]; exact ho3⟩
  · have hD := decide_eq_false hP
    simp only [↓vsd, vsn, gW, qd, qv, ev, pick, argE, zipE, ne_eq, eq_self, forall_const, implies_true, if_true, if_false, reduceIte, reduceCtorEq, Nat.reduceEqDiff, Nat.reduceAdd, Nat.reduceLT, ↓us_sDodgesIn, r_sDodgesIn, hD]
    exact ⟨hx1, _, rfl, by rw [doL, if_neg hP]; exact Own.nil fI_len⟩
end Go.Proofs.Ytpnopboffalfnaa
