/-
  SpliceRows returns what the reference's returns: the law.
  Conditions: none.
-/
import Derived.Test.YtnhealghpfjdcaaA67
set_option linter.unusedSimpArgs false
set_option linter.unusedVariables false
set_option linter.defProp false
namespace Go.Proofs.Ytnhealghpfjdcaa
open Go Go.RowKit
section
variable (P : Program) (k : KT) (e : Env) (w : World)
abbrev b40_1 : X := (.cond (.t 11) (.seq (.reg [4] (.c (.q 4 [] (.mv (.c (.int .i64 (-1))))) .nil)) .ret) .skip)
def t40_1 := b40_1
theorem u40_1 : vcK P t40_1 k e w = vcK P b40_1 k e w := rfl
abbrev b40_2 : X := (.cond (.t 15) .skip (.exit 0))
def t40_2 := b40_2
theorem u40_2 : vcK P t40_2 k e w = vcK P b40_2 k e w := rfl
abbrev b40_3 : X := (.cond (.t 25) (.seq (.reg [4] (.c (.q 4 [] (.mv (.c (.int .i64 (-1))))) .nil)) .ret) .skip)
def t40_3 := b40_3
theorem u40_3 : vcK P t40_3 k e w = vcK P b40_3 k e w := rfl
abbrev b40_4 : X := (.seq (.reg [0, 1, 5, 25] (.c (.q 24 [] (.mv (.t 1))) (.c (.q 25 [] (.bin .lss (.t 24) (.c (.int .i64 0)))) .nil))) t40_3)
def t40_4 := b40_4
theorem u40_4 : vcK P t40_4 k e w = vcK P b40_4 k e w := rfl
abbrev b40_5 : X := (.reg [0, 1, 5] (.c (.q 16 [] (.mv (.t 5))) (.c (.q 17 [] (.bin .add (.t 16) (.c (.int .i64 1)))) (.c (.q 5 [] (.mv (.t 17))) .nil))))
def t40_5 := b40_5
theorem u40_5 : vcK P t40_5 k e w = vcK P b40_5 k e w := rfl
abbrev b40_6 : X := (.seq (.blk 1 (.seq (.reg [0, 1, 5] (.c (.q 18 [] (.mv (.t 0))) (.c (.q 19 [] (.mv (.t 5))) (.c (.q 20 [] (.ia 3 (.t 18) (.t 19))) (.c (.q 21 [] (.lda 3 (.t 20))) (.c (.q 22 [] (.mv (.t 1))) (.c (.e (some 23) [] (.call false 12 [(.t 21), (.t 22)])) (.c (.q 1 [] (.mv (.t 23))) .nil)))))))) t40_4)) t40_5)
def t40_6 := b40_6
theorem u40_6 : vcK P t40_6 k e w = vcK P b40_6 k e w := rfl
abbrev b40_7 : X := (.seq (.seq (.reg [0, 1, 5, 15] (.c (.q 12 [] (.mv (.t 5))) (.c (.q 13 [] (.mv (.t 0))) (.c (.q 14 [] (.lens (.t 13))) (.c (.q 15 [] (.bin .lss (.t 12) (.t 14))) .nil))))) t40_2) t40_6)
def t40_7 := b40_7
theorem u40_7 : vcK P t40_7 k e w = vcK P b40_7 k e w := rfl
abbrev b40_8 : X := (.blk 0 (.loop [1, 5] [0] t40_7))
def t40_8 := b40_8
theorem u40_8 : vcK P t40_8 k e w = vcK P b40_8 k e w := rfl
abbrev b40_9 : X := (.seq (.reg [4] (.c (.q 26 [] (.mv (.t 1))) (.c (.q 4 [] (.mv (.t 26))) .nil))) .ret)
def t40_9 := b40_9
theorem u40_9 : vcK P t40_9 k e w = vcK P b40_9 k e w := rfl
abbrev b40_10 : X := (.seq (.seq (.reg [0, 1, 5] (.c (.q 5 [] (.mv (.c (.int .i64 0)))) .nil)) t40_8) t40_9)
def t40_10 := b40_10
theorem u40_10 : vcK P t40_10 k e w = vcK P b40_10 k e w := rfl
abbrev b40_11 : X := (.seq (.seq (.reg [0, 1, 11] (.c (.q 10 [] (.mv (.t 1))) (.c (.q 11 [] (.bin .lss (.t 10) (.c (.int .i64 0)))) .nil))) t40_1) t40_10)
def t40_11 := b40_11
theorem u40_11 : vcK P t40_11 k e w = vcK P b40_11 k e w := rfl
abbrev b40_12 : X := (.seq (.reg [0, 1] (.c (.q 6 [] (.mv (.t 1))) (.c (.q 7 [] (.mv (.t 0))) (.c (.q 8 [] (.lens (.t 7))) (.c (.q 9 [] (.bin .sub (.t 6) (.t 8))) (.c (.q 1 [] (.mv (.t 9))) .nil)))))) t40_11)
def t40_12 := b40_12
theorem u40_12 : vcK P t40_12 k e w = vcK P b40_12 k e w := rfl
abbrev b40_0 : X := (.seq (.reg [0, 1] (.c (.q 4 [] (.mv (.c (.int .i64 0)))) .nil)) t40_12)
def x_lszMethodS := b40_0
theorem u40_0 : vcK P x_lszMethodS k e w = vcK P b40_0 k e w := rfl
def r_lszMethodS : List XO := [(.mv (.t 4))]
theorem c_lszMethodS : convF Try.prog [89, 116, 117, 121, 143, 161, 162, 163, 166, 168, 234] Try.f40 [([0, 1], []), ([0, 1], []), ([0, 1, 11], []), ([4], []), ([0, 1, 5], []), ([1, 5], [0]), ([0, 1, 5, 15], []), ([0, 1, 5], []), ([0, 1, 5, 25], []), ([4], []), ([0, 1, 5], []), ([4], [])] = some (x_lszMethodS, r_lszMethodS) := by kernel_rfl
def us_lszMethodS := aI @u40_0 (aI @u40_1 (aI @u40_2 (aI @u40_3 (aI @u40_4 (aI @u40_5 (aI @u40_6 (aI @u40_7 (aI @u40_8 (aI @u40_9 (aI @u40_10 (aI @u40_11 @u40_12)))))))))))
abbrev b42_1 : X := (.cond (.t 11) .skip (.exit 0))
def t42_1 := b42_1
theorem u42_1 : vcK P t42_1 k e w = vcK P b42_1 k e w := rfl
abbrev b42_2 : X := (.reg [0, 3, 4] (.c (.q 12 [] (.mv (.t 4))) (.c (.q 13 [] (.bin .add (.t 12) (.c (.int .i64 1)))) (.c (.q 4 [] (.mv (.t 13))) .nil))))
def t42_2 := b42_2
theorem u42_2 : vcK P t42_2 k e w = vcK P b42_2 k e w := rfl
abbrev b42_3 : X := (.seq (.blk 1 (.reg [0, 3, 4] (.c (.q 14 [] (.mv (.t 3))) (.c (.q 15 [] (.mv (.t 4))) (.c (.q 16 [] (.mv (.t 0))) (.c (.q 17 [] (.mv (.t 4))) (.c (.q 18 [] (.ia 3 (.t 16) (.t 17))) (.c (.q 19 [] (.lda 3 (.t 18))) (.c (.e (some 20) [] (.call false 15 [(.t 19)])) (.c (.q 21 [] (.ia 3 (.t 14) (.t 15))) (.c (.e none [] (.st 3 (.t 21) (.t 20))) .nil))))))))))) t42_2)
def t42_3 := b42_3
theorem u42_3 : vcK P t42_3 k e w = vcK P b42_3 k e w := rfl
abbrev b42_4 : X := (.seq (.seq (.reg [0, 3, 4, 11] (.c (.q 8 [] (.mv (.t 4))) (.c (.q 9 [] (.mv (.t 0))) (.c (.q 10 [] (.lens (.t 9))) (.c (.q 11 [] (.bin .lss (.t 8) (.t 10))) .nil))))) t42_1) t42_3)
def t42_4 := b42_4
theorem u42_4 : vcK P t42_4 k e w = vcK P b42_4 k e w := rfl
abbrev b42_5 : X := (.blk 0 (.loop [4] [0, 3] t42_4))
def t42_5 := b42_5
theorem u42_5 : vcK P t42_5 k e w = vcK P b42_5 k e w := rfl
abbrev b42_6 : X := (.seq (.reg [2] (.c (.q 22 [] (.mv (.t 3))) (.c (.q 2 [] (.mv (.t 22))) .nil))) .ret)
def t42_6 := b42_6
theorem u42_6 : vcK P t42_6 k e w = vcK P b42_6 k e w := rfl
abbrev b42_7 : X := (.seq (.seq (.reg [0, 3, 4] (.c (.q 4 [] (.mv (.c (.int .i64 0)))) .nil)) t42_5) t42_6)
def t42_7 := b42_7
theorem u42_7 : vcK P t42_7 k e w = vcK P b42_7 k e w := rfl
abbrev b42_8 : X := (.seq (.reg [0, 3] (.c (.q 5 [] (.mv (.t 0))) (.c (.q 6 [] (.lens (.t 5))) (.c (.e (some 7) [] (.msl 59 31 3 48 [(S []), (.int .i64 0), (.slice none 0 0)] (.t 6) (.t 6))) (.c (.q 3 [] (.mv (.t 7))) .nil))))) t42_7)
def t42_8 := b42_8
theorem u42_8 : vcK P t42_8 k e w = vcK P b42_8 k e w := rfl
abbrev b42_0 : X := (.seq (.reg [0] (.c (.q 2 [] (.mv (.c (.slice none 0 0)))) .nil)) t42_8)
def x_ltoMethodS := b42_0
theorem u42_0 : vcK P x_ltoMethodS k e w = vcK P b42_0 k e w := rfl
def r_ltoMethodS : List XO := [(.mv (.t 2))]
theorem c_ltoMethodS : convF Try.prog [89, 116, 117, 121, 143, 161, 162, 163, 166, 168, 234] Try.f42 [([0], []), ([0, 3], []), ([0, 3, 4], []), ([4], [0, 3]), ([0, 3, 4, 11], []), ([0, 3, 4], []), ([0, 3, 4], []), ([2], [])] = some (x_ltoMethodS, r_ltoMethodS) := by kernel_rfl
def us_ltoMethodS := aI @u42_0 (aI @u42_1 (aI @u42_2 (aI @u42_3 (aI @u42_4 (aI @u42_5 (aI @u42_6 (aI @u42_7 @u42_8)))))))
abbrev b44_1 : X := (.cond (.t 10) (.seq (.reg [4] (.c (.q 4 [] (.mv (.c (.bool false)))) .nil)) .ret) .skip)
def t44_1 := b44_1
theorem u44_1 : vcK P t44_1 k e w = vcK P b44_1 k e w := rfl
abbrev b44_2 : X := (.cond (.t 14) .skip (.exit 0))
def t44_2 := b44_2
theorem u44_2 : vcK P t44_2 k e w = vcK P b44_2 k e w := rfl
abbrev b44_3 : X := (.cond (.t 26) (.seq (.reg [4] (.c (.q 4 [] (.mv (.c (.bool false)))) .nil)) .ret) .skip)
def t44_3 := b44_3
theorem u44_3 : vcK P t44_3 k e w = vcK P b44_3 k e w := rfl
abbrev b44_4 : X := (.reg [0, 1, 5] (.c (.q 15 [] (.mv (.t 5))) (.c (.q 16 [] (.bin .add (.t 15) (.c (.int .i64 1)))) (.c (.q 5 [] (.mv (.t 16))) .nil))))
def t44_4 := b44_4
theorem u44_4 : vcK P t44_4 k e w = vcK P b44_4 k e w := rfl
abbrev b44_5 : X := (.seq (.blk 1 (.seq (.drw [0, 1, 5, 26] (.c (.q 17 [] (.mv (.t 0))) (.c (.q 18 [] (.mv (.t 5))) (.c (.q 19 [] (.ia 3 (.t 17) (.t 18))) (.c (.q 20 [] (.lda 3 (.t 19))) (.c (.q 21 [] (.mv (.t 1))) (.c (.q 22 [] (.mv (.t 5))) (.c (.q 23 [] (.ia 3 (.t 21) (.t 22))) (.c (.q 24 [] (.lda 3 (.t 23))) (.c (.e (some 25) [] (.call false 18 [(.t 20), (.t 24)])) (.c (.q 26 [] (.not (.t 25))) .nil))))))))))) t44_3)) t44_4)
def t44_5 := b44_5
theorem u44_5 : vcK P t44_5 k e w = vcK P b44_5 k e w := rfl
abbrev b44_6 : X := (.seq (.seq (.reg [0, 1, 5, 14] (.c (.q 11 [] (.mv (.t 5))) (.c (.q 12 [] (.mv (.t 0))) (.c (.q 13 [] (.lens (.t 12))) (.c (.q 14 [] (.bin .lss (.t 11) (.t 13))) .nil))))) t44_2) t44_5)
def t44_6 := b44_6
theorem u44_6 : vcK P t44_6 k e w = vcK P b44_6 k e w := rfl
abbrev b44_7 : X := (.blk 0 (.loop [5] [0, 1] t44_6))
def t44_7 := b44_7
theorem u44_7 : vcK P t44_7 k e w = vcK P b44_7 k e w := rfl
abbrev b44_8 : X := (.seq (.reg [4] (.c (.q 4 [] (.mv (.c (.bool true)))) .nil)) .ret)
def t44_8 := b44_8
theorem u44_8 : vcK P t44_8 k e w = vcK P b44_8 k e w := rfl
abbrev b44_9 : X := (.seq (.seq (.reg [0, 1, 5] (.c (.q 5 [] (.mv (.c (.int .i64 0)))) .nil)) t44_7) t44_8)
def t44_9 := b44_9
theorem u44_9 : vcK P t44_9 k e w = vcK P b44_9 k e w := rfl
abbrev b44_10 : X := (.seq (.seq (.reg [0, 1, 10] (.c (.q 6 [] (.mv (.t 0))) (.c (.q 7 [] (.lens (.t 6))) (.c (.q 8 [] (.mv (.t 1))) (.c (.q 9 [] (.lens (.t 8))) (.c (.q 10 [] (.bin .neq (.t 7) (.t 9))) .nil)))))) t44_1) t44_9)
def t44_10 := b44_10
theorem u44_10 : vcK P t44_10 k e w = vcK P b44_10 k e w := rfl
abbrev b44_0 : X := (.seq (.reg [0, 1] (.c (.q 4 [] (.mv (.c (.bool false)))) .nil)) t44_10)
def x_leqMethodS := b44_0
theorem u44_0 : vcK P x_leqMethodS k e w = vcK P b44_0 k e w := rfl
def r_leqMethodS : List XO := [(.mv (.t 4))]
theorem c_leqMethodS : convF Try.prog [89, 116, 117, 121, 143, 161, 162, 163, 166, 168, 234] Try.f44 [([0, 1], []), ([0, 1, 10], []), ([4], []), ([0, 1, 5], []), ([5], [0, 1]), ([0, 1, 5, 14], []), ([0, 1, 5, 26], []), ([4], []), ([0, 1, 5], []), ([4], [])] = some (x_leqMethodS, r_leqMethodS) := by kernel_rfl
def us_leqMethodS := aI @u44_0 (aI @u44_1 (aI @u44_2 (aI @u44_3 (aI @u44_4 (aI @u44_5 (aI @u44_6 (aI @u44_7 (aI @u44_8 (aI @u44_9 @u44_10)))))))))
abbrev b65_1 : X := (.cond (.t 9) .skip (.exit 0))
def t65_1 := b65_1
theorem u65_1 : vcK P t65_1 k e w = vcK P b65_1 k e w := rfl
abbrev b65_2 : X := (.reg [0, 1, 5] (.c (.q 27 [] (.mv (.t 0))) (.c (.q 28 [] (.mv (.t 5))) (.c (.q 29 [] (.ia 3 (.t 27) (.t 28))) (.c (.q 30 [] (.fa 2 (.t 29))) (.c (.q 31 [] (.ld (.t 30))) (.c (.q 32 [] (.mv (.t 1))) (.c (.e (some 33) [] (.call false 23 [(.t 31), (.t 32)])) (.c (.q 1 [] (.mv (.t 33))) .nil)))))))))
def t65_2 := b65_2
theorem u65_2 : vcK P t65_2 k e w = vcK P b65_2 k e w := rfl
abbrev b65_3 : X := (.seq (.reg [0, 1, 5] (.c (.q 25 [] (.mv (.t 1))) (.c (.q 26 [] (.bin .add (.t 25) (.c (.int .i64 1)))) (.c (.q 1 [] (.mv (.t 26))) .nil)))) t65_2)
def t65_3 := b65_3
theorem u65_3 : vcK P t65_3 k e w = vcK P b65_3 k e w := rfl
abbrev b65_4 : X := (.seq (.reg [0, 1, 5] (.c (.q 20 [] (.mv (.t 0))) (.c (.q 21 [] (.mv (.t 5))) (.c (.q 22 [] (.mv (.t 1))) (.c (.q 23 [] (.ia 3 (.t 20) (.t 21))) (.c (.q 24 [] (.fa 1 (.t 23))) (.c (.e none [] (.st 1 (.t 24) (.t 22))) .nil))))))) t65_3)
def t65_4 := b65_4
theorem u65_4 : vcK P t65_4 k e w = vcK P b65_4 k e w := rfl
abbrev b65_5 : X := (.seq (.reg [0, 1, 5] (.c (.q 18 [] (.mv (.t 1))) (.c (.q 19 [] (.bin .add (.t 18) (.c (.int .i64 1)))) (.c (.q 1 [] (.mv (.t 19))) .nil)))) t65_4)
def t65_5 := b65_5
theorem u65_5 : vcK P t65_5 k e w = vcK P b65_5 k e w := rfl
abbrev b65_6 : X := (.reg [0, 1, 5] (.c (.q 10 [] (.mv (.t 5))) (.c (.q 11 [] (.bin .add (.t 10) (.c (.int .i64 1)))) (.c (.q 5 [] (.mv (.t 11))) .nil))))
def t65_6 := b65_6
theorem u65_6 : vcK P t65_6 k e w = vcK P b65_6 k e w := rfl
abbrev b65_7 : X := (.seq (.blk 1 (.seq (.reg [0, 1, 5] (.c (.q 12 [] (.mv (.t 0))) (.c (.q 13 [] (.mv (.t 5))) (.c (.q 14 [] (.mv (.t 1))) (.c (.e (some 15) [] (.call false 68 [(.t 14)])) (.c (.q 16 [] (.ia 3 (.t 12) (.t 13))) (.c (.q 17 [] (.fa 0 (.t 16))) (.c (.e none [] (.st 1 (.t 17) (.t 15))) .nil)))))))) t65_5)) t65_6)
def t65_7 := b65_7
theorem u65_7 : vcK P t65_7 k e w = vcK P b65_7 k e w := rfl
abbrev b65_8 : X := (.seq (.seq (.reg [0, 1, 5, 9] (.c (.q 6 [] (.mv (.t 5))) (.c (.q 7 [] (.mv (.t 0))) (.c (.q 8 [] (.lens (.t 7))) (.c (.q 9 [] (.bin .lss (.t 6) (.t 8))) .nil))))) t65_1) t65_7)
def t65_8 := b65_8
theorem u65_8 : vcK P t65_8 k e w = vcK P b65_8 k e w := rfl
abbrev b65_9 : X := (.blk 0 (.loop [1, 5] [0] t65_8))
def t65_9 := b65_9
theorem u65_9 : vcK P t65_9 k e w = vcK P b65_9 k e w := rfl
abbrev b65_10 : X := (.seq (.reg [4] (.c (.q 34 [] (.mv (.t 1))) (.c (.q 4 [] (.mv (.t 34))) .nil))) .ret)
def t65_10 := b65_10
theorem u65_10 : vcK P t65_10 k e w = vcK P b65_10 k e w := rfl
abbrev b65_11 : X := (.seq (.seq (.reg [0, 1, 5] (.c (.q 5 [] (.mv (.c (.int .i64 0)))) .nil)) t65_9) t65_10)
def t65_11 := b65_11
theorem u65_11 : vcK P t65_11 k e w = vcK P b65_11 k e w := rfl
abbrev b65_0 : X := (.seq (.reg [0, 1] (.c (.q 4 [] (.mv (.c (.int .i64 0)))) .nil)) t65_11)
def x_lmarkMethodS := b65_0
theorem u65_0 : vcK P x_lmarkMethodS k e w = vcK P b65_0 k e w := rfl
def r_lmarkMethodS : List XO := [(.mv (.t 4))]
theorem c_lmarkMethodS : convF Try.prog [89, 116, 117, 121, 143, 161, 162, 163, 166, 168, 234] Try.f65 [([0, 1], []), ([0, 1, 5], []), ([1, 5], [0]), ([0, 1, 5, 9], []), ([0, 1, 5], []), ([0, 1, 5], []), ([0, 1, 5], []), ([0, 1, 5], []), ([0, 1, 5], []), ([0, 1, 5], []), ([4], [])] = some (x_lmarkMethodS, r_lmarkMethodS) := by kernel_rfl
def us_lmarkMethodS := aI @u65_0 (aI @u65_1 (aI @u65_2 (aI @u65_3 (aI @u65_4 (aI @u65_5 (aI @u65_6 (aI @u65_7 (aI @u65_8 (aI @u65_9 (aI @u65_10 @u65_11))))))))))
abbrev b11_1 : X := (.cond (.t 20) (.seq (.reg [6] (.c (.q 6 [] (.mv (.c (.bool true)))) .nil)) .ret) .skip)
def t11_1 := b11_1
theorem u11_1 : vcK P t11_1 k e w = vcK P b11_1 k e w := rfl
abbrev b11_2 : X := (.cond (.t 25) (.seq (.reg [6] (.c (.q 6 [] (.mv (.c (.bool true)))) .nil)) .ret) .skip)
def t11_2 := b11_2
theorem u11_2 : vcK P t11_2 k e w = vcK P b11_2 k e w := rfl
abbrev b11_3 : X := (.cond (.t 30) (.seq (.reg [6] (.c (.q 6 [] (.mv (.c (.bool true)))) .nil)) .ret) .skip)
def t11_3 := b11_3
theorem u11_3 : vcK P t11_3 k e w = vcK P b11_3 k e w := rfl
abbrev b11_4 : X := (.cond (.t 58) (.seq (.reg [6] (.c (.q 6 [] (.mv (.c (.bool false)))) .nil)) .ret) .skip)
def t11_4 := b11_4
theorem u11_4 : vcK P t11_4 k e w = vcK P b11_4 k e w := rfl
abbrev b11_5 : X := (.cond (.t 63) (.seq (.reg [6] (.c (.q 6 [] (.mv (.c (.bool false)))) .nil)) .ret) .skip)
def t11_5 := b11_5
theorem u11_5 : vcK P t11_5 k e w = vcK P b11_5 k e w := rfl
abbrev b11_6 : X := (.cond (.t 79) (.seq (.reg [6] (.c (.q 6 [] (.mv (.c (.bool false)))) .nil)) .ret) .skip)
def t11_6 := b11_6
theorem u11_6 : vcK P t11_6 k e w = vcK P b11_6 k e w := rfl
abbrev b11_7 : X := (.cond (.t 87) (.seq (.reg [6] (.c (.q 6 [] (.mv (.c (.bool false)))) .nil)) .ret) .skip)
def t11_7 := b11_7
theorem u11_7 : vcK P t11_7 k e w = vcK P b11_7 k e w := rfl
abbrev b11_8 : X := (.cond (.t 90) (.seq (.reg [6] (.c (.q 6 [] (.mv (.c (.bool false)))) .nil)) .ret) .skip)
def t11_8 := b11_8
theorem u11_8 : vcK P t11_8 k e w = vcK P b11_8 k e w := rfl
abbrev b11_9 : X := (.cond (.t 108) (.seq (.reg [6] (.c (.q 6 [] (.mv (.c (.bool false)))) .nil)) .ret) .skip)
def t11_9 := b11_9
theorem u11_9 : vcK P t11_9 k e w = vcK P b11_9 k e w := rfl
abbrev b11_10 : X := (.cond (.t 113) (.seq (.reg [6] (.c (.q 6 [] (.mv (.c (.bool false)))) .nil)) .ret) .skip)
def t11_10 := b11_10
theorem u11_10 : vcK P t11_10 k e w = vcK P b11_10 k e w := rfl
abbrev b11_11 : X := (.cond (.t 116) (.seq (.reg [6] (.c (.q 6 [] (.mv (.c (.bool false)))) .nil)) .ret) .skip)
def t11_11 := b11_11
theorem u11_11 : vcK P t11_11 k e w = vcK P b11_11 k e w := rfl
abbrev b11_12 : X := (.seq (.reg [6] (.c (.q 6 [] (.mv (.c (.bool true)))) .nil)) .ret)
def t11_12 := b11_12
theorem u11_12 : vcK P t11_12 k e w = vcK P b11_12 k e w := rfl
abbrev b11_13 : X := (.seq (.seq (.reg [116] (.c (.q 114 [] (.mv (.t 15))) (.c (.q 115 [] (.mv (.t 14))) (.c (.q 116 [] (.bin .neq (.t 114) (.t 115))) .nil)))) t11_11) t11_12)
def t11_13 := b11_13
theorem u11_13 : vcK P t11_13 k e w = vcK P b11_13 k e w := rfl
abbrev b11_14 : X := (.seq (.seq (.reg [14, 15, 113] (.c (.q 112 [] (.mv (.t 15))) (.c (.q 113 [] (.bin .lss (.t 112) (.c (.int .i64 0)))) .nil))) t11_10) t11_13)
def t11_14 := b11_14
theorem u11_14 : vcK P t11_14 k e w = vcK P b11_14 k e w := rfl
abbrev b11_15 : X := (.seq (.reg [14, 15] (.c (.q 109 [] (.mv (.t 11))) (.c (.q 110 [] (.mv (.t 15))) (.c (.e (some 111) [] (.call false 24 [(.t 109), (.t 110)])) (.c (.q 15 [] (.mv (.t 111))) .nil))))) t11_14)
def t11_15 := b11_15
theorem u11_15 : vcK P t11_15 k e w = vcK P b11_15 k e w := rfl
abbrev b11_16 : X := (.seq (.reg [11, 14, 15] (.c (.q 15 [] (.mv (.c (.int .i64 1)))) .nil)) t11_15)
def t11_16 := b11_16
theorem u11_16 : vcK P t11_16 k e w = vcK P b11_16 k e w := rfl
abbrev b11_17 : X := (.seq (.seq (.reg [11, 14, 108] (.c (.q 100 [] (.mv (.t 16))) (.c (.q 101 [] (.mv (.t 8))) (.c (.e (some 102) [] (.call false 21 [(.t 100), (.t 101)])) (.c (.q 103 [] (.not (.t 102))) (.c (.q 104 [] (.mv (.t 103))) (.c (.q 105 [(104, false)] (.mv (.t 17))) (.c (.q 106 [(104, false)] (.mv (.t 9))) (.c (.q 107 [(104, false)] (.beq true (.t 105) (.t 106))) (.c (.q 108 [] (.pick (.t 104) (.c (.bool true)) (.t 107))) .nil)))))))))) t11_9) t11_16)
def t11_17 := b11_17
theorem u11_17 : vcK P t11_17 k e w = vcK P b11_17 k e w := rfl
abbrev b11_18 : X := (.seq (.drw [8, 9, 11, 14, 16, 17] (.c (.q 92 [] (.mv (.t 0))) (.c (.q 94 [] (.lda 2 (.t 4))) (.c (.q 96 [] (.mv (.t 2))) (.c (.e (some 93) [] (.call false 42 [(.t 92)])) (.c (.e (some 95) [] (.call false 16 [(.t 94)])) (.c (.e (some 97) [] (.call false 64 [(.t 93), (.t 95), (.t 96)])) (.c (.q 91 [] (.mv (.t 97))) (.c (.q 98 [] (.ext 0 (.t 91))) (.c (.q 99 [] (.ext 1 (.t 91))) (.c (.q 16 [] (.mv (.t 98))) (.c (.q 17 [] (.mv (.t 99))) .nil)))))))))))) t11_17)
def t11_18 := b11_18
theorem u11_18 : vcK P t11_18 k e w = vcK P b11_18 k e w := rfl
abbrev b11_19 : X := (.seq (.seq (.reg [0, 2, 4, 8, 9, 11, 14, 90] (.c (.q 88 [] (.mv (.t 15))) (.c (.q 89 [] (.mv (.t 14))) (.c (.q 90 [] (.bin .neq (.t 88) (.t 89))) .nil)))) t11_8) t11_18)
def t11_19 := b11_19
theorem u11_19 : vcK P t11_19 k e w = vcK P b11_19 k e w := rfl
abbrev b11_20 : X := (.seq (.seq (.reg [0, 2, 4, 8, 9, 11, 14, 15, 87] (.c (.q 86 [] (.mv (.t 15))) (.c (.q 87 [] (.bin .lss (.t 86) (.c (.int .i64 0)))) .nil))) t11_7) t11_19)
def t11_20 := b11_20
theorem u11_20 : vcK P t11_20 k e w = vcK P b11_20 k e w := rfl
abbrev b11_21 : X := (.seq (.reg [0, 2, 4, 8, 9, 11, 14, 15] (.c (.q 83 [] (.mv (.t 11))) (.c (.q 84 [] (.mv (.t 15))) (.c (.e (some 85) [] (.call false 24 [(.t 83), (.t 84)])) (.c (.q 15 [] (.mv (.t 85))) .nil))))) t11_20)
def t11_21 := b11_21
theorem u11_21 : vcK P t11_21 k e w = vcK P b11_21 k e w := rfl
abbrev b11_22 : X := (.seq (.reg [0, 2, 4, 8, 9, 11, 14, 15] (.c (.q 15 [] (.mv (.c (.int .i64 1)))) .nil)) t11_21)
def t11_22 := b11_22
theorem u11_22 : vcK P t11_22 k e w = vcK P b11_22 k e w := rfl
abbrev b11_23 : X := (.seq (.reg [0, 2, 4, 8, 9, 11, 14] (.c (.q 80 [] (.mv (.t 11))) (.c (.q 81 [] (.mv (.t 14))) (.c (.e (some 82) [] (.call false 23 [(.t 80), (.t 81)])) (.c (.q 14 [] (.mv (.t 82))) .nil))))) t11_22)
def t11_23 := b11_23
theorem u11_23 : vcK P t11_23 k e w = vcK P b11_23 k e w := rfl
abbrev b11_24 : X := (.seq (.reg [0, 2, 4, 8, 9, 11, 14] (.c (.q 14 [] (.mv (.c (.int .i64 1)))) .nil)) t11_23)
def t11_24 := b11_24
theorem u11_24 : vcK P t11_24 k e w = vcK P b11_24 k e w := rfl
abbrev b11_25 : X := (.seq (.seq (.reg [0, 2, 4, 8, 9, 11, 79] (.c (.q 67 [] (.mv (.t 13))) (.c (.q 68 [] (.bin .lss (.t 67) (.c (.int .i64 0)))) (.c (.q 69 [] (.mv (.t 68))) (.c (.q 70 [(69, false)] (.mv (.t 11))) (.c (.q 71 [(69, false)] (.mv (.t 8))) (.c (.e (some 72) [(69, false)] (.call false 21 [(.t 70), (.t 71)])) (.c (.q 73 [(69, false)] (.not (.t 72))) (.c (.q 74 [] (.pick (.t 69) (.c (.bool true)) (.t 73))) (.c (.q 75 [] (.mv (.t 74))) (.c (.q 76 [(75, false)] (.mv (.t 12))) (.c (.q 77 [(75, false)] (.mv (.t 9))) (.c (.q 78 [(75, false)] (.beq true (.t 76) (.t 77))) (.c (.q 79 [] (.pick (.t 75) (.c (.bool true)) (.t 78))) .nil)))))))))))))) t11_6) t11_24)
def t11_25 := b11_25
theorem u11_25 : vcK P t11_25 k e w = vcK P b11_25 k e w := rfl
abbrev b11_26 : X := (.seq (.reg [0, 2, 4, 8, 9, 11, 12, 13] (.c (.q 64 [] (.mv (.t 10))) (.c (.q 65 [] (.mv (.t 13))) (.c (.e (some 66) [] (.call false 65 [(.t 64), (.t 65)])) (.c (.q 13 [] (.mv (.t 66))) .nil))))) t11_25)
def t11_26 := b11_26
theorem u11_26 : vcK P t11_26 k e w = vcK P b11_26 k e w := rfl
abbrev b11_27 : X := (.seq (.reg [0, 2, 4, 8, 9, 10, 11, 12, 13] (.c (.q 13 [] (.mv (.c (.int .i64 1)))) .nil)) t11_26)
def t11_27 := b11_27
theorem u11_27 : vcK P t11_27 k e w = vcK P b11_27 k e w := rfl
abbrev b11_28 : X := (.seq (.seq (.reg [0, 2, 4, 8, 9, 10, 11, 12, 63] (.c (.q 59 [] (.mv (.t 10))) (.c (.q 60 [] (.mv (.t 0))) (.c (.e (some 61) [] (.call false 42 [(.t 60)])) (.c (.e (some 62) [] (.call false 44 [(.t 59), (.t 61)])) (.c (.q 63 [] (.not (.t 62))) .nil)))))) t11_5) t11_27)
def t11_28 := b11_28
theorem u11_28 : vcK P t11_28 k e w = vcK P b11_28 k e w := rfl
abbrev b11_29 : X := (.seq (.seq (.reg [0, 2, 4, 8, 9, 10, 11, 12, 58] (.c (.q 50 [] (.mv (.t 11))) (.c (.q 51 [] (.mv (.t 8))) (.c (.e (some 52) [] (.call false 21 [(.t 50), (.t 51)])) (.c (.q 53 [] (.not (.t 52))) (.c (.q 54 [] (.mv (.t 53))) (.c (.q 55 [(54, false)] (.mv (.t 12))) (.c (.q 56 [(54, false)] (.mv (.t 9))) (.c (.q 57 [(54, false)] (.beq true (.t 55) (.t 56))) (.c (.q 58 [] (.pick (.t 54) (.c (.bool true)) (.t 57))) .nil)))))))))) t11_4) t11_28)
def t11_29 := b11_29
theorem u11_29 : vcK P t11_29 k e w = vcK P b11_29 k e w := rfl
abbrev b11_30 : X := (.seq (.reg [0, 2, 4, 8, 9, 10, 11, 12] (.c (.q 43 [] (.mv (.t 10))) (.c (.q 44 [] (.lda 2 (.t 4))) (.c (.e (some 45) [] (.call false 16 [(.t 44)])) (.c (.q 46 [] (.mv (.t 2))) (.c (.e (some 47) [] (.call false 64 [(.t 43), (.t 45), (.t 46)])) (.c (.q 42 [] (.mv (.t 47))) (.c (.q 48 [] (.ext 0 (.t 42))) (.c (.q 49 [] (.ext 1 (.t 42))) (.c (.q 11 [] (.mv (.t 48))) (.c (.q 12 [] (.mv (.t 49))) .nil))))))))))) t11_29)
def t11_30 := b11_30
theorem u11_30 : vcK P t11_30 k e w = vcK P b11_30 k e w := rfl
abbrev b11_31 : X := (.seq (.reg [0, 2, 4, 8, 9, 10] (.c (.q 40 [] (.mv (.t 0))) (.c (.e (some 41) [] (.call false 42 [(.t 40)])) (.c (.q 10 [] (.mv (.t 41))) .nil)))) t11_30)
def t11_31 := b11_31
theorem u11_31 : vcK P t11_31 k e w = vcK P b11_31 k e w := rfl
abbrev b11_32 : X := (.seq (.drw [0, 2, 4, 8, 9] (.c (.q 32 [] (.mv (.t 0))) (.c (.q 34 [] (.lda 2 (.t 4))) (.c (.q 36 [] (.mv (.t 2))) (.c (.e (some 33) [] (.call false 42 [(.t 32)])) (.c (.e (some 35) [] (.call false 16 [(.t 34)])) (.c (.e (some 37) [] (.call false 63 [(.t 33), (.t 35), (.t 36)])) (.c (.q 31 [] (.mv (.t 37))) (.c (.q 38 [] (.ext 0 (.t 31))) (.c (.q 39 [] (.ext 1 (.t 31))) (.c (.q 8 [] (.mv (.t 38))) (.c (.q 9 [] (.mv (.t 39))) .nil)))))))))))) t11_31)
def t11_32 := b11_32
theorem u11_32 : vcK P t11_32 k e w = vcK P b11_32 k e w := rfl
abbrev b11_33 : X := (.seq (.seq (.reg [0, 2, 4, 30] (.c (.q 29 [] (.mv (.t 7))) (.c (.q 30 [] (.bin .lss (.t 29) (.c (.int .i64 0)))) .nil))) t11_3) t11_32)
def t11_33 := b11_33
theorem u11_33 : vcK P t11_33 k e w = vcK P b11_33 k e w := rfl
abbrev b11_34 : X := (.seq (.reg [0, 2, 4, 7] (.c (.q 26 [] (.lda 2 (.t 4))) (.c (.q 27 [] (.mv (.t 7))) (.c (.e (some 28) [] (.call false 13 [(.t 26), (.t 27)])) (.c (.q 7 [] (.mv (.t 28))) .nil))))) t11_33)
def t11_34 := b11_34
theorem u11_34 : vcK P t11_34 k e w = vcK P b11_34 k e w := rfl
abbrev b11_35 : X := (.seq (.seq (.reg [0, 2, 4, 7, 25] (.c (.q 24 [] (.mv (.t 7))) (.c (.q 25 [] (.bin .lss (.t 24) (.c (.int .i64 0)))) .nil))) t11_2) t11_34)
def t11_35 := b11_35
theorem u11_35 : vcK P t11_35 k e w = vcK P b11_35 k e w := rfl
abbrev b11_36 : X := (.seq (.reg [0, 2, 4, 7] (.c (.q 21 [] (.mv (.t 0))) (.c (.q 22 [] (.mv (.t 7))) (.c (.e (some 23) [] (.call false 40 [(.t 21), (.t 22)])) (.c (.q 7 [] (.mv (.t 23))) .nil))))) t11_35)
def t11_36 := b11_36
theorem u11_36 : vcK P t11_36 k e w = vcK P b11_36 k e w := rfl
abbrev b11_37 : X := (.seq (.reg [0, 2, 4, 7] (.c (.q 7 [] (.mv (.c (.int .i64 1048576)))) .nil)) t11_36)
def t11_37 := b11_37
theorem u11_37 : vcK P t11_37 k e w = vcK P b11_37 k e w := rfl
abbrev b11_38 : X := (.seq (.seq (.reg [0, 2, 4, 20] (.c (.q 18 [] (.mv (.t 2))) (.c (.q 19 [] (.len (.t 18))) (.c (.q 20 [] (.bin .gtr (.t 19) (.c (.int .i64 1048576)))) .nil)))) t11_1) t11_37)
def t11_38 := b11_38
theorem u11_38 : vcK P t11_38 k e w = vcK P b11_38 k e w := rfl
abbrev b11_0 : X := (.seq (.reg [0, 2, 4] (.c (.e (some 4) [] (.box 26 (.t 1))) (.c (.q 6 [] (.mv (.c (.bool false)))) .nil))) t11_38)
def x_lFnExactSpliceRows := b11_0
theorem u11_0 : vcK P x_lFnExactSpliceRows k e w = vcK P b11_0 k e w := rfl
def r_lFnExactSpliceRows : List XO := [(.mv (.t 6))]
theorem c_lFnExactSpliceRows : convF Try.prog [89, 116, 117, 121, 143, 161, 162, 163, 166, 168, 234] Try.f11 [([0, 2, 4], []), ([0, 2, 4, 20], []), ([6], []), ([0, 2, 4, 7], []), ([0, 2, 4, 7], []), ([0, 2, 4, 7, 25], []), ([6], []), ([0, 2, 4, 7], []), ([0, 2, 4, 30], []), ([6], []), ([0, 2, 4, 8, 9], []), ([0, 2, 4, 8, 9, 10], []), ([0, 2, 4, 8, 9, 10, 11, 12], []), ([0, 2, 4, 8, 9, 10, 11, 12, 58], []), ([6], []), ([0, 2, 4, 8, 9, 10, 11, 12, 63], []), ([6], []), ([0, 2, 4, 8, 9, 10, 11, 12, 13], []), ([0, 2, 4, 8, 9, 11, 12, 13], []), ([0, 2, 4, 8, 9, 11, 79], []), ([6], []), ([0, 2, 4, 8, 9, 11, 14], []), ([0, 2, 4, 8, 9, 11, 14], []), ([0, 2, 4, 8, 9, 11, 14, 15], []), ([0, 2, 4, 8, 9, 11, 14, 15], []), ([0, 2, 4, 8, 9, 11, 14, 15, 87], []), ([6], []), ([0, 2, 4, 8, 9, 11, 14, 90], []), ([6], []), ([8, 9, 11, 14, 16, 17], []), ([11, 14, 108], []), ([6], []), ([11, 14, 15], []), ([14, 15], []), ([14, 15, 113], []), ([6], []), ([116], []), ([6], []), ([6], [])] = some (x_lFnExactSpliceRows, r_lFnExactSpliceRows) := by kernel_rfl
def us_lFnExactSpliceRows := aI @u11_0 (aI @u11_1 (aI @u11_2 (aI @u11_3 (aI @u11_4 (aI @u11_5 (aI @u11_6 (aI @u11_7 (aI @u11_8 (aI @u11_9 (aI @u11_10 (aI @u11_11 (aI @u11_12 (aI @u11_13 (aI @u11_14 (aI @u11_15 (aI @u11_16 (aI @u11_17 (aI @u11_18 (aI @u11_19 (aI @u11_20 (aI @u11_21 (aI @u11_22 (aI @u11_23 (aI @u11_24 (aI @u11_25 (aI @u11_26 (aI @u11_27 (aI @u11_28 (aI @u11_29 (aI @u11_30 (aI @u11_31 (aI @u11_32 (aI @u11_33 (aI @u11_34 (aI @u11_35 (aI @u11_36 (aI @u11_37 @u11_38)))))))))))))))))))))))))))))))))))))
end

def offM (ls : List (List (List UInt8))) (i : Nat) : Nat := (ls.take i).flatten.length
theorem offM_succ (ls : List (List (List UInt8))) (i : Nat) (h : i < ls.length) : offM ls (i + 1) = offM ls i + (ls.getD i []).length := by
  unfold offM
  rw [List.take_add_one, List.getElem?_eq_getElem h, List.flatten_append, List.length_append, List.getD_eq_getElem?_getD, List.getElem?_eq_getElem h]
  simp
theorem offM_all (ls : List (List (List UInt8))) : offM ls ls.length = ls.flatten.length := by rw [offM, List.take_length]
theorem offM_le (ls : List (List (List UInt8))) (i : Nat) : offM ls i ≤ ls.flatten.length := by
  unfold offM
  conv => rhs; rw [← List.take_append_drop i ls]
  rw [List.flatten_append, List.length_append]
  omega
/-- Methods of the same names and stages. -/
def SameM (ms ms' : List MS) : Prop := ms'.length = ms.length ∧ ∀ i, (ms'.getD i MS.nil).nm = (ms.getD i MS.nil).nm ∧ (ms'.getD i MS.nil).st = (ms.getD i MS.nil).st
theorem sameM_spl {ms ms' : List MS} (h : SameM ms ms') (css : List (List (List UInt8))) (b s : List UInt8) : SplM ms' css b s ↔ SplM ms css b s := by
  unfold SplM
  simp only [h.1, (h.2 _).1, (h.2 _).2]
theorem sameM_ok {ms ms' : List MS} (h : SameM ms ms') (css : List (List (List UInt8))) (b s t : List UInt8) : SrOk ms' css b s t ↔ SrOk ms css b s t := by
  unfold SrOk SplOk
  rw [sameM_spl h, (h.2 0).2, h.1]
theorem sameM_v {ms ms' : List MS} (h : SameM ms ms') (css : List (List (List UInt8))) (b s t : List UInt8) : srV ms' css b s t = srV ms css b s t := by
  unfold srV
  rw [(h.2 0).2]
  simp only [sameM_ok h]
theorem sameM_small {ms ms' : List MS} {css : List (List (List UInt8))} (h : SameM ms ms') (hs : MSmall ms css) : MSmall ms' css := by
  unfold MSmall at *
  simp only [h.1, (h.2 _).1]
  exact hs
/-- Only blocks from B to T are written. -/
structure Btw (B T : Nat) (w w' : World) : Prop where
  os : w'.os = w.os
  tape : w'.tape = w.tape
  output : w'.output = w.output
  size : w.heap.size ≤ w'.heap.size
  block : ∀ g, g < w.heap.size → (g < B ∨ T ≤ g) → w'.heap[g]? = w.heap[g]?
theorem Btw.refl (B T : Nat) (w : World) : Btw B T w w := ⟨rfl, rfl, rfl, Nat.le_refl _, fun _ _ _ => rfl⟩
theorem Btw.trans {B T : Nat} {w w' w'' : World} (h : Btw B T w w') (h' : Btw B T w' w'') : Btw B T w w'' := ⟨h'.os.trans h.os, h'.tape.trans h.tape, h'.output.trans h.output, Nat.le_trans h.size h'.size, fun g hg hn => (h'.block g (Nat.lt_of_lt_of_le hg h.size) hn).trans (h.block g hg hn)⟩
theorem Btw.ext {B T : Nat} {w w' : World} (h : Ext w w') : Btw B T w w' := ⟨h.os, h.tape, h.output, h.size, fun g hg _ => h.block hg⟩
theorem Btw.grown {B T : Nat} {w w' : World} {r : Option Nat} (h : w.grownBy w' r) (hr : ∀ c, r = some c → B ≤ c ∧ c < T) : Btw B T w w' := ⟨h.os, h.tape, h.output, h.size, fun g hg hn => h.block g hg fun e => by have := hr g e.symm; omega⟩
theorem Own.btw {α : Type} {f : α → List Value} {z E B' B T : Nat} {w w' : World} {v : Value} {l : List α} (h : Own f z E B' w v l) (hb : Btw B T w w') (hn : ∀ g, v.ownBlock = some g → g < B ∨ T ≤ g) : Own f z E B' w' v l := h.same fun g hg => hb.block g (h.lt g hg) (hn g hg)
/-- An own slice of methods, each with a slice of its own. -/
def MNest (B T : Nat) (w : World) (v : Value) (ms : List MS) (css : List (List (List UInt8))) : Prop := (Own fMS 3 31 B w v ms ∧ ∀ c, v.ownBlock = some c → c < T) ∧ css.length = ms.length ∧ ∀ i < ms.length, Own fS 1 9 B w (ms.getD i MS.nil).sv.v (css.getD i []) ∧ (∀ c, (ms.getD i MS.nil).sv.v.ownBlock = some c → v.ownBlock ≠ some c ∧ c < T) ∧ ∀ j < i, ∀ c, (ms.getD j MS.nil).sv.v.ownBlock = some c → (ms.getD i MS.nil).sv.v.ownBlock ≠ some c
theorem MNest.sq {B T : Nat} {w : World} {v : Value} {ms : List MS} {css : List (List (List UInt8))} (h : MNest B T w v ms css) : SqM w v ms css := ⟨h.1.1.sq, h.2.1, fun i hi => (h.2.2 i hi).1.sq⟩
theorem MNest.ext {B T : Nat} {w w' : World} {v : Value} {ms : List MS} {css : List (List (List UInt8))} (h : MNest B T w v ms css) (hx : Ext w w') : MNest B T w' v ms css := ⟨⟨h.1.1.ext hx, h.1.2⟩, h.2.1, fun i hi => ⟨(h.2.2 i hi).1.ext hx, (h.2.2 i hi).2⟩⟩
theorem lszStringS_ok2 (v : Value) (l : List (List UInt8)) (n : Int) (hn : 0 ≤ n ∧ n ≤ 1048576) (hl : l.length ≤ 9223372036854775807) (hs : ∀ x ∈ l, x.length ≤ 9223372036854775807) (w : World) (h : Sq fS 1 w v l) :
    Fn 32 [v, .int .i64 n] w (fun v _ => ∃ m : Int, v = .int .i64 m ∧ m ≤ 1048576 ∧ (0 ≤ m → m + l.length ≤ n ∧ ∀ x ∈ l, x.length ≤ 1048576)) := by
  (refine callsV_of mix Try.func32 c_lszStringS ?_; simp only [↓vsd, vsn, gW, qd, qv, ev, pick, argE, zipE, ne_eq, eq_self, forall_const, implies_true, if_true, if_false, reduceIte, reduceCtorEq, Nat.reduceEqDiff, Nat.reduceAdd, Nat.reduceLT, ↓us_lszStringS, r_lszStringS])
  simp only [↓vsd, vsn, gW, qd, qv, ev, pick, argE, zipE, ne_eq, eq_self, forall_const, implies_true, if_true, if_false, reduceIte, reduceCtorEq, Nat.reduceEqDiff, Nat.reduceAdd, Nat.reduceLT, ↓us_lszStringS, r_lszStringS, h.facts]
  refine ⟨inR_i64 (by omega), fun hlt => ⟨Ext.refl _, -1, rfl, by omega, fun h => by omega⟩, fun hge => ?_⟩
  refine m_upto l.length (fun k vs w' => ∃ m : Int, vs = [.int .i64 m, .int .i64 k] ∧ 0 ≤ m ∧ m + l.length ≤ n ∧ (∀ x ∈ l.take k, x.length ≤ 1048576) ∧ Ext w w') ⟨_, rfl, by omega, by omega, by simp, Ext.refl _⟩ ?_
  rintro k vs w1 hk ⟨m, rfl, h0, h1, hall, hx⟩
  have hq := h.ext hx
  by_cases hlt : k < l.length
  · have hltI : (k : Int) < l.length := by omega
    have hltJ : ¬ (l.length : Int) ≤ k := by omega
    have := hs _ (getD_mem [] hlt)
    simp only [↓vsd, vsn, gW, qd, qv, ev, pick, argE, zipE, ne_eq, eq_self, forall_const, implies_true, if_true, if_false, reduceIte, reduceCtorEq, Nat.reduceEqDiff, Nat.reduceAdd, Nat.reduceLT, ↓us_lszStringS, r_lszStringS, hq.facts, hq.at1 [] hlt, hltI, hltJ]
    refine ⟨by omega, inR_i64 (by omega), fun _ => ⟨hx, -1, rfl, by omega, fun h => by omega⟩, fun hge2 => ⟨inR_i64 (by omega), UpTo.next hlt ⟨_, rfl, by omega, by omega, fun x hx' => ?_, hx⟩⟩⟩
    rcases mem_take (d := []) hlt hx' with h | rfl
    · exact hall x h
    · omega
  · obtain rfl : k = l.length := by omega
    have hltI : ¬ (l.length : Int) < l.length := by omega
    simp only [↓vsd, vsn, gW, qd, qv, ev, pick, argE, zipE, ne_eq, eq_self, forall_const, implies_true, if_true, if_false, reduceIte, reduceCtorEq, Nat.reduceEqDiff, Nat.reduceAdd, Nat.reduceLT, ↓us_lszStringS, r_lszStringS, hq.facts, hltI]
    exact ⟨hx, m, rfl, by omega, fun _ => ⟨h1, by simpa using hall⟩⟩
theorem lszMethod_ok2 (nm : List UInt8) (st : Int) (v : Value) (cs : List (List UInt8)) (n : Int) (hn : 0 ≤ n ∧ n ≤ 1048576) (hnm : nm.length ≤ 9223372036854775807) (hl : cs.length ≤ 9223372036854775807) (hs : ∀ x ∈ cs, x.length ≤ 9223372036854775807) (w : World) (h : Sq fS 1 w v cs) :
    Fn 12 [mV nm st v, .int .i64 n] w (fun r _ => ∃ m : Int, r = .int .i64 m ∧ m ≤ 1048576 ∧ (0 ≤ m → nm.length ≤ 1048576 ∧ m + cs.length ≤ n ∧ ∀ x ∈ cs, x.length ≤ 1048576)) := by
  (refine callsV_of mix Try.func12 c_lszMethod ?_; simp only [↓vsd, vsn, gW, qd, qv, ev, pick, argE, zipE, ne_eq, eq_self, forall_const, implies_true, if_true, if_false, reduceIte, reduceCtorEq, Nat.reduceEqDiff, Nat.reduceAdd, Nat.reduceLT, ↓us_lszMethod, r_lszMethod])
  refine m_al ?_
  rintro b w1 hb hblk hx1 hs1
  have h1 : Blk w1 b (fM nm st v) 24 := hblk
  have hq1 := h.ext hx1
  simp only [↓vsd, vsn, gW, qd, qv, ev, pick, argE, zipE, ne_eq, eq_self, forall_const, implies_true, if_true, if_false, reduceIte, reduceCtorEq, Nat.reduceEqDiff, Nat.reduceAdd, Nat.reduceLT, ↓us_lszMethod, r_lszMethod, h1.facts, fMg]
  refine ⟨inR_i64 (by omega), fun hneg => ⟨hx1, -1, rfl, by omega, fun h => by omega⟩, fun hpos => ?_⟩
  refine m_call (lszStringS_ok2 v cs _ ⟨hpos, by omega⟩ hl hs _ hq1) ?_
  rintro _ w2 hx2 ⟨m, rfl, hm1, hm2⟩
  simp only [↓vsd, vsn, gW, qd, qv, ev, pick, argE, zipE, ne_eq, eq_self, forall_const, implies_true, if_true, if_false, reduceIte, reduceCtorEq, Nat.reduceEqDiff, Nat.reduceAdd, Nat.reduceLT, ↓us_lszMethod, r_lszMethod]
  refine ⟨fun hneg => ⟨hx1.trans hx2, -1, rfl, by omega, fun h => by omega⟩, fun hp => ⟨hx1.trans hx2, m, rfl, hm1, fun _ => ⟨by omega, by have := (hm2 hp).1; omega, (hm2 hp).2⟩⟩⟩
/-- No part is longer than a slice can be. -/
def MBig (ms : List MS) (css : List (List (List UInt8))) : Prop := ms.length ≤ 9223372036854775807 ∧ ∀ i < ms.length, (ms.getD i MS.nil).nm.length ≤ 9223372036854775807 ∧ (css.getD i []).length ≤ 9223372036854775807 ∧ ∀ c ∈ css.getD i [], c.length ≤ 9223372036854775807
theorem lszMethodS_ok (v : Value) (ms : List MS) (css : List (List (List UInt8))) (n : Int) (hn : 0 ≤ n ∧ n ≤ 1048576) (hB : MBig ms css) (w : World) (h : SqM w v ms css) :
    Fn 40 [v, .int .i64 n] w (fun v _ => ∃ m : Int, v = .int .i64 m ∧ m ≤ 1048576 ∧ (0 ≤ m → MSmall ms css ∧ css.flatten.length ≤ 1048576)) := by
  (refine callsV_of mix Try.func40 c_lszMethodS ?_; simp only [↓vsd, vsn, gW, qd, qv, ev, pick, argE, zipE, ne_eq, eq_self, forall_const, implies_true, if_true, if_false, reduceIte, reduceCtorEq, Nat.reduceEqDiff, Nat.reduceAdd, Nat.reduceLT, ↓us_lszMethodS, r_lszMethodS])
  simp only [↓vsd, vsn, gW, qd, qv, ev, pick, argE, zipE, ne_eq, eq_self, forall_const, implies_true, if_true, if_false, reduceIte, reduceCtorEq, Nat.reduceEqDiff, Nat.reduceAdd, Nat.reduceLT, ↓us_lszMethodS, r_lszMethodS, h.1.facts]
  have hl := hB.1
  refine ⟨inR_i64 (by omega), fun hneg => ⟨Ext.refl _, -1, rfl, by omega, fun hh => by omega⟩, fun hpos => ?_⟩
  refine m_upto ms.length (fun i vs w' => ∃ m : Int, vs = [.int .i64 m, .int .i64 i] ∧ 0 ≤ m ∧ m + offM css i ≤ 1048576 ∧ (∀ j < i, (ms.getD j MS.nil).nm.length ≤ 1048576 ∧ (css.getD j []).length ≤ 1048576 ∧ ∀ c ∈ css.getD j [], c.length ≤ 1048576) ∧ Ext w w') ⟨n - ms.length, rfl, by omega, by simp [offM]; omega, fun j hj => by omega, Ext.refl _⟩ ?_
  rintro i vs w1 hi ⟨m, rfl, hm0, hm1, hall, hx1⟩
  have hq1 := h.ext hx1
  have hq1f := hq1.1.facts
  by_cases hlt : i < ms.length
  · have hltI : (i : Int) < ms.length := by omega
    have hltJ : ¬ (ms.length : Int) ≤ i := by omega
    have a1 := hq1.1.ata MS.nil hlt
    have hss := hB.2 _ hlt
    have hin := hq1.2.2 i hlt
    have hof := offM_succ css i (by rw [h.2.1]; exact hlt)
    simp only [↓vsd, vsn, gW, qd, qv, ev, pick, argE, zipE, ne_eq, eq_self, forall_const, implies_true, if_true, if_false, reduceIte, reduceCtorEq, Nat.reduceEqDiff, Nat.reduceAdd, Nat.reduceLT, ↓us_lszMethodS, r_lszMethodS, hltI, hltJ, hq1f, a1]
    refine ⟨by omega, m_call (lszMethod_ok2 (ms.getD i MS.nil).nm (ms.getD i MS.nil).st (ms.getD i MS.nil).sv.v (css.getD i []) m ⟨hm0, by omega⟩ hss.1 hss.2.1 hss.2.2 _ (by first | exact hin | exact hin.ext (dr (Ext.refl _)))) ?_⟩
    rintro _ w2 hx2 ⟨m2, rfl, hm21, hm2⟩
    have hx2 : Ext w1 w2 := by first | exact hx2 | exact ud hx2 | exact ud (ud hx2)
    simp only [↓vsd, vsn, gW, qd, qv, ev, pick, argE, zipE, ne_eq, eq_self, forall_const, implies_true, if_true, if_false, reduceIte, reduceCtorEq, Nat.reduceEqDiff, Nat.reduceAdd, Nat.reduceLT, ↓us_lszMethodS, r_lszMethodS]
    refine ⟨fun hneg => ⟨hx1.trans hx2, -1, rfl, by omega, fun hh => by omega⟩, fun hpos2 => ⟨inR_i64 (by omega), UpTo.next hlt ⟨m2, by simp, hpos2, by have := (hm2 hpos2).2.1; omega, fun j hj => ?_, hx1.trans hx2⟩⟩⟩
    by_cases hji : j = i
    · subst hji; exact ⟨(hm2 hpos2).1, by have := (hm2 hpos2).2.1; omega, (hm2 hpos2).2.2⟩
    · exact hall j (by omega)
  · obtain rfl : i = ms.length := by omega
    have hltI : ¬ (ms.length : Int) < ms.length := by omega
    simp only [↓vsd, vsn, gW, qd, qv, ev, pick, argE, zipE, ne_eq, eq_self, forall_const, implies_true, if_true, if_false, reduceIte, reduceCtorEq, Nat.reduceEqDiff, Nat.reduceAdd, Nat.reduceLT, ↓us_lszMethodS, r_lszMethodS, hq1f, hltI]
    have hoa := offM_all css
    rw [h.2.1] at hoa
    exact ⟨hx1, m, rfl, by omega, fun _ => ⟨⟨by omega, hall⟩, by omega⟩⟩
theorem ltoMethodS_ok (v : Value) (ms : List MS) (css : List (List (List UInt8))) (hl : MSmall ms css) (w : World) (h : SqM w v ms css) : Fn 42 [v] w (fun r w' => ∃ ms', SameM ms ms' ∧ MNest w.heap.size w'.heap.size w' r ms' css) := by
  have hll := hl.1
  (refine callsV_of mix Try.func42 c_ltoMethodS ?_; simp only [↓vsd, vsn, gW, qd, qv, ev, pick, argE, zipE, ne_eq, eq_self, forall_const, implies_true, if_true, if_false, reduceIte, reduceCtorEq, Nat.reduceEqDiff, Nat.reduceAdd, Nat.reduceLT, ↓us_ltoMethodS, r_ltoMethodS])
  simp only [↓vsd, vsn, gW, qd, qv, ev, pick, argE, zipE, ne_eq, eq_self, forall_const, implies_true, if_true, if_false, reduceIte, reduceCtorEq, Nat.reduceEqDiff, Nat.reduceAdd, Nat.reduceLT, ↓us_ltoMethodS, r_ltoMethodS, h.1.facts]
  refine m_msl MS.nil fMS_len rfl (by omega) (by decide) (Nat.le_refl _) ?_
  rintro o1 w1 ho1 hb1 hx1
  simp only [↓vsd, vsn, gW, qd, qv, ev, pick, argE, zipE, ne_eq, eq_self, forall_const, implies_true, if_true, if_false, reduceIte, reduceCtorEq, Nat.reduceEqDiff, Nat.reduceAdd, Nat.reduceLT, ↓us_ltoMethodS, r_ltoMethodS]
  refine m_upto ms.length (fun i vs w' => vs = [.int .i64 i] ∧ (∃ ms', ms'.length = ms.length ∧ Own fMS 3 31 w.heap.size w' o1 ms' ∧ ∀ j < i, ((ms'.getD j MS.nil).nm = (ms.getD j MS.nil).nm ∧ (ms'.getD j MS.nil).st = (ms.getD j MS.nil).st) ∧ Own fS 1 9 w.heap.size w' (ms'.getD j MS.nil).sv.v (css.getD j []) ∧ (∀ c, (ms'.getD j MS.nil).sv.v.ownBlock = some c → o1.ownBlock ≠ some c) ∧ ∀ j' < j, ∀ c, (ms'.getD j' MS.nil).sv.v.ownBlock = some c → (ms'.getD j MS.nil).sv.v.ownBlock ≠ some c) ∧ Ext w w') ⟨rfl, ⟨_, by simp, ho1, fun j hj => by omega⟩, hx1⟩ ?_
  rintro i vs w2 hi ⟨rfl, ⟨us, hul, hou, hin⟩, hx2⟩
  have hq2 := h.ext hx2
  have hq2f := hq2.1.facts
  by_cases hlt : i < ms.length
  · have hltI : (i : Int) < ms.length := by omega
    have hltJ : ¬ (ms.length : Int) ≤ i := by omega
    have a2 := hq2.1.ata MS.nil hlt
    have hcc := hq2.2.2 i hlt
    simp only [↓vsd, vsn, gW, qd, qv, ev, pick, argE, zipE, ne_eq, eq_self, forall_const, implies_true, if_true, if_false, reduceIte, reduceCtorEq, Nat.reduceEqDiff, Nat.reduceAdd, Nat.reduceLT, ↓us_ltoMethodS, r_ltoMethodS, hltI, hltJ, hq2f, a2]
    refine ⟨by omega, m_call (ltoMethod_ok (ms.getD i MS.nil).nm (ms.getD i MS.nil).st (ms.getD i MS.nil).sv.v (css.getD i []) (hl.2 i hlt).2.1 _ (by first | exact hcc | exact hcc.ext (dr (Ext.refl _)))) ?_⟩
    rintro _ w3 hx3 ⟨y, rfl, hoy⟩
    have hx3 : Ext w2 w3 := by first | exact hx3 | exact ud hx3 | exact ud (ud hx3)
    obtain ⟨sv, rfl⟩ := hoy.sq.sv
    have hou3 := hou.ext hx3
    have hou3f := hou3.sq.facts
    simp only [↓vsd, vsn, gW, qd, qv, ev, pick, argE, zipE, ne_eq, eq_self, forall_const, implies_true, if_true, if_false, reduceIte, reduceCtorEq, Nat.reduceEqDiff, Nat.reduceAdd, Nat.reduceLT, ↓us_ltoMethodS, r_ltoMethodS, hou3f, hul]
    refine ⟨by omega, m_set1 i (MS.mk (ms.getD i MS.nil).nm (ms.getD i MS.nil).st sv) hou3 rfl (by omega) rfl fMS_one ?_⟩
    rintro w4 ho4 hg4 _
    have hx4 : Ext w w4 := hou3.grown (hx2.trans hx3) (Nat.le_refl _) hg4
    simp only [↓vsd, vsn, gW, qd, qv, ev, pick, argE, zipE, ne_eq, eq_self, forall_const, implies_true, if_true, if_false, reduceIte, reduceCtorEq, Nat.reduceEqDiff, Nat.reduceAdd, Nat.reduceLT, ↓us_ltoMethodS, r_ltoMethodS]
    refine ⟨inR_i64 (by omega), UpTo.next hlt ⟨by simp, ⟨_, by rw [List.length_set, hul], ho4, fun j hj => ?_⟩, hx4⟩⟩
    have hne : ∀ c, sv.v.ownBlock = some c → o1.ownBlock ≠ some c := fun c hc e => by
      have := (hoy.bound c hc).1
      have := hou.lt c e
      omega
    rw [getD_set]
    by_cases hji : i = j
    · subst hji
      rw [if_pos ⟨rfl, by omega⟩]
      refine ⟨⟨rfl, rfl⟩, (hoy.off hg4 (fun c hc e => hne c e hc)).mono hx2.size, hne, fun j' hj' c hc e => ?_⟩
      rw [getD_set, if_neg (fun hh => by omega)] at hc
      have := (hin j' hj').2.1.lt c hc
      have := (hoy.bound c e).1
      omega
    · rw [if_neg (fun hh => hji hh.1)]
      obtain ⟨q0, q1, q2, q3⟩ := hin j (by omega)
      refine ⟨q0, (q1.ext hx3).off hg4 (fun c hc e => q2 c e hc), q2, fun j' hj' c hc => ?_⟩
      rw [getD_set, if_neg (fun hh => by omega)] at hc
      exact q3 j' hj' c hc
  · obtain rfl : i = ms.length := by omega
    have hltI : ¬ (ms.length : Int) < ms.length := by omega
    simp only [↓vsd, vsn, gW, qd, qv, ev, pick, argE, zipE, ne_eq, eq_self, forall_const, implies_true, if_true, if_false, reduceIte, reduceCtorEq, Nat.reduceEqDiff, Nat.reduceAdd, Nat.reduceLT, ↓us_ltoMethodS, r_ltoMethodS, hq2f, hltI]
    refine ⟨hx2, us, ⟨hul, fun j => ?_⟩, ⟨hou, fun c hc => hou.lt c hc⟩, by rw [hul]; exact h.2.1, fun j hj => ?_⟩
    · rcases Nat.lt_or_ge j ms.length with hj | hj
      · exact (hin j hj).1
      · rw [List.getD_eq_getElem?_getD, List.getD_eq_getElem?_getD, List.getElem?_eq_none (by omega), List.getElem?_eq_none hj]
        exact ⟨rfl, rfl⟩
    · obtain ⟨_, q1, q2, q3⟩ := hin j (by omega)
      exact ⟨q1, fun c hc => ⟨q2 c hc, q1.lt c hc⟩, q3⟩
theorem leqMethodS_ok (v1 v2 : Value) (m1 m2 : List MS) (css : List (List (List UInt8))) (hl : MSmall m1 css) (hS : SameM m1 m2) (w : World) (h1 : SqM w v1 m1 css) (h2 : SqM w v2 m2 css) : Fn 44 [v1, v2] w (fun r _ => r = .bool true) := by
  have hll := hl.1
  have h2l := hS.1
  (refine callsV_of mix Try.func44 c_leqMethodS ?_; simp only [↓vsd, vsn, gW, qd, qv, ev, pick, argE, zipE, ne_eq, eq_self, forall_const, implies_true, if_true, if_false, reduceIte, reduceCtorEq, Nat.reduceEqDiff, Nat.reduceAdd, Nat.reduceLT, ↓us_leqMethodS, r_leqMethodS])
  simp only [↓vsd, vsn, gW, qd, qv, ev, pick, argE, zipE, ne_eq, eq_self, forall_const, implies_true, if_true, if_false, reduceIte, reduceCtorEq, Nat.reduceEqDiff, Nat.reduceAdd, Nat.reduceLT, ↓us_leqMethodS, r_leqMethodS, h1.1.facts, h2.1.facts, h2l]
  refine m_upto m1.length (fun i vs w' => vs = [.int .i64 i] ∧ Ext w w') ⟨rfl, Ext.refl _⟩ ?_
  rintro i vs w2 hi ⟨rfl, hx2⟩
  have hq1 := h1.ext hx2
  have hq2 := h2.ext hx2
  have hf1 := hq1.1.facts
  have hf2 := hq2.1.facts
  by_cases hlt : i < m1.length
  · have hltI : (i : Int) < m1.length := by omega
    have hltJ : ¬ (m1.length : Int) ≤ i := by omega
    have hlt2 : i < m2.length := by omega
    have a1 := hq1.1.ata MS.nil hlt
    have a2 := hq2.1.ata MS.nil hlt2
    have c1 := hq1.2.2 i hlt
    have c2 := hq2.2.2 i hlt2
    simp only [↓vsd, vsn, gW, qd, qv, ev, pick, argE, zipE, ne_eq, eq_self, forall_const, implies_true, if_true, if_false, reduceIte, reduceCtorEq, Nat.reduceEqDiff, Nat.reduceAdd, Nat.reduceLT, ↓us_leqMethodS, r_leqMethodS, hltI, hltJ, hf1, hf2, a1, a2, h2l]
    refine ⟨by omega, by omega, m_call (leqMethod_ok _ _ _ _ _ _ (css.getD i []) (css.getD i []) (by have := (hl.2 i hlt).2.1; omega) _ (by first | exact c1 | exact c1.ext (dr (Ext.refl _))) (by first | exact c2 | exact c2.ext (dr (Ext.refl _)))) ?_⟩
    rintro _ w3 hx3 rfl
    have hx3 : Ext w2 w3 := by first | exact hx3 | exact ud hx3 | exact ud (ud hx3)
    have hd : decide ((m1.getD i MS.nil).nm = (m2.getD i MS.nil).nm ∧ (m1.getD i MS.nil).st = (m2.getD i MS.nil).st ∧ css.getD i [] = css.getD i []) = true := decide_eq_true ⟨(hS.2 i).1.symm, (hS.2 i).2.symm, rfl⟩
    rw [hd]
    simp only [↓vsd, vsn, gW, qd, qv, ev, pick, argE, zipE, ne_eq, eq_self, forall_const, implies_true, if_true, if_false, reduceIte, reduceCtorEq, Nat.reduceEqDiff, Nat.reduceAdd, Nat.reduceLT, ↓us_leqMethodS, r_leqMethodS]
    exact ⟨inR_i64 (by omega), UpTo.next hlt ⟨by simp, hx2.trans hx3⟩⟩
  · obtain rfl : i = m1.length := by omega
    have hltI : ¬ (m1.length : Int) < m1.length := by omega
    simp only [↓vsd, vsn, gW, qd, qv, ev, pick, argE, zipE, ne_eq, eq_self, forall_const, implies_true, if_true, if_false, reduceIte, reduceCtorEq, Nat.reduceEqDiff, Nat.reduceAdd, Nat.reduceLT, ↓us_leqMethodS, r_leqMethodS, hf1, hltI]
    exact hx2
theorem Sq.pt {α : Type} {f : α → List Value} {z : Nat} {w : World} {v : Value} {l : List α} (h : Sq f z w v l) {i : Nat} (hi : i < l.length) : ∀ k : IntKind, isP (iaV z v (.int k i)) = True := fun k => by
  obtain ⟨a, e, _⟩ := h.2.at k i hi
  rw [e]
  exact eq_true trivial
theorem lmarkMethodS_ok (v : Value) (ms : List MS) (css : List (List (List UInt8))) (B T k : Nat) (hl : MSmall ms css ∧ css.flatten.length ≤ 1048576) (hk : k ≤ 1000000) (w : World) (h : MNest B T w v ms css) :
    CallsV Try.prog 65 [v, .int .i64 k] w (fun r w' => (∃ q : Nat, r = .int .i64 q) ∧ Btw B T w w') := by
  have hll := hl.1.1
  have hcl := h.2.1
  (refine callsV_of mix Try.func65 c_lmarkMethodS ?_; simp only [↓vsd, vsn, gW, qd, qv, ev, pick, argE, zipE, ne_eq, eq_self, forall_const, implies_true, if_true, if_false, reduceIte, reduceCtorEq, Nat.reduceEqDiff, Nat.reduceAdd, Nat.reduceLT, ↓us_lmarkMethodS, r_lmarkMethodS])
  refine m_upto ms.length (fun i vs w' => vs = [.int .i64 (k + 2 * i + offM css i : Nat), .int .i64 i] ∧ (∃ us, us.length = ms.length ∧ Own fMS 3 31 B w' v us ∧ (∀ j, (us.getD j MS.nil).sv = (ms.getD j MS.nil).sv) ∧ ∀ j < ms.length, i ≤ j → Own fS 1 9 B w' (ms.getD j MS.nil).sv.v (css.getD j [])) ∧ Btw B T w w') ⟨by simp [offM], ⟨ms, rfl, h.1.1, fun _ => rfl, fun j hj _ => (h.2.2 j hj).1⟩, Btw.refl _ _ _⟩ ?_
  rintro i vs w1 hi ⟨rfl, ⟨us, hul, hou, hsv, hin⟩, hb⟩
  have hq := hou.sq.facts
  by_cases hlt : i < ms.length
  · have hltI : (i : Int) < ms.length := by omega
    have hltJ : ¬ (ms.length : Int) ≤ i := by omega
    have hle := offM_le css (i + 1)
    have hsc := offM_succ css i (by omega)
    simp only [↓vsd, vsn, gW, qd, qv, ev, pick, argE, zipE, ne_eq, eq_self, forall_const, implies_true, if_true, if_false, reduceIte, reduceCtorEq, Nat.reduceEqDiff, Nat.reduceAdd, Nat.reduceLT, ↓us_lmarkMethodS, r_lmarkMethodS, hltI, hltJ, hq, hul]
    refine m_call (lmarkText_ok _ (by omega) _) ?_
    rintro _ w2 hx2 rfl
    have hou2 := hou.ext hx2
    have hou2f := hou2.sq.facts
    have pt2 := hou2.sq.pt (i := i) (by omega)
    simp only [↓vsd, vsn, gW, qd, qv, ev, pick, argE, zipE, ne_eq, eq_self, forall_const, implies_true, if_true, if_false, reduceIte, reduceCtorEq, Nat.reduceEqDiff, Nat.reduceAdd, Nat.reduceLT, ↓us_lmarkMethodS, r_lmarkMethodS, hou2f, hul, pt2]
    refine ⟨by omega, ?_⟩
    refine m_set (n := 1) (o := 0) (x := S (markL (k + 2 * i + offM css i))) i MS.nil (MS.mk (markL (k + 2 * i + offM css i)) (us.getD i MS.nil).st (us.getD i MS.nil).sv) hou2 rfl (by omega) rfl (by decide) (fS_one _) rfl ?_
    rintro w3 ho3 hg3 hs3
    have ho3f := ho3.sq.facts
    rw [List.length_set] at ho3f
    have pt3 := ho3.sq.pt (i := i) (by rw [List.length_set]; omega)
    simp only [↓vsd, vsn, gW, qd, qv, ev, pick, argE, zipE, ne_eq, eq_self, forall_const, implies_true, if_true, if_false, reduceIte, reduceCtorEq, Nat.reduceEqDiff, Nat.reduceAdd, Nat.reduceLT, ↓us_lmarkMethodS, r_lmarkMethodS, ho3f, hul, pt3]
    refine ⟨inR_i64 (by omega), by omega, ?_⟩
    refine m_set (n := 1) (o := 1) (x := .int .i64 ((k + 2 * i + offM css i : Nat) + 1)) i MS.nil (MS.mk (markL (k + 2 * i + offM css i)) ((k + 2 * i + offM css i : Nat) + 1) (us.getD i MS.nil).sv) ho3 rfl (by rw [List.length_set]; omega) rfl (by decide) (fI_one _) (by rw [getD_set, if_pos ⟨rfl, by omega⟩]; rfl) ?_
    rintro w4 ho4 hg4 hs4
    have ho4f := ho4.sq.facts
    rw [List.length_set, List.length_set] at ho4f
    have a4 := ho4.sq.atf MS.nil (i := i) (by rw [List.length_set, List.length_set]; omega) .i64 2 (by omega)
    have pt4 := ho4.sq.pt (i := i) (by rw [List.length_set, List.length_set]; omega)
    rw [getD_set, if_pos ⟨rfl, by rw [List.length_set]; omega⟩] at a4
    have hsvi := hsv i
    rw [hsvi] at a4
    have e2 : ((k + 2 * i + offM css i : Nat) : Int) + 1 + 1 = ((k + 2 * i + offM css i + 2 : Nat) : Int) := by omega
    simp only [↓vsd, vsn, gW, qd, qv, ev, pick, argE, zipE, ne_eq, eq_self, forall_const, implies_true, if_true, if_false, reduceIte, reduceCtorEq, Nat.reduceEqDiff, Nat.reduceAdd, Nat.reduceLT, ↓us_lmarkMethodS, r_lmarkMethodS, ho4f, hul, a4, pt4, fMSg, e2]
    have hoff : ∀ j < ms.length, ∀ c, v.ownBlock = some c → (ms.getD j MS.nil).sv.v.ownBlock ≠ some c := fun j hj c hc e => ((h.2.2 j hj).2.1 c e).1 hc
    have hin4 : ∀ j < ms.length, i ≤ j → Own fS 1 9 B w4 (ms.getD j MS.nil).sv.v (css.getD j []) := fun j hj hij => (((hin j hj hij).ext hx2).off hg3 (hoff j hj)).off hg4 (hoff j hj)
    have hci : (css.getD i []).length ≤ 1048576 := (hl.1.2 i hlt).2.1
    refine ⟨inR_i64 (by omega), ⟨by omega, by omega⟩, m_callw (by first | exact .inl rfl | exact .inr rfl) (lmarkStringS_ok _ (css.getD i []) B (k + 2 * i + offM css i + 2) (by omega) (by omega) _ (hin4 i hlt (Nat.le_refl _))) ?_⟩
    rintro _ w5 ⟨rfl, ho5, hg5⟩
    simp only [↓vsd, vsn, gW, qd, qv, ev, pick, argE, zipE, ne_eq, eq_self, forall_const, implies_true, if_true, if_false, reduceIte, reduceCtorEq, Nat.reduceEqDiff, Nat.reduceAdd, Nat.reduceLT, ↓us_lmarkMethodS, r_lmarkMethodS]
    have hB1 : ∀ c, v.ownBlock = some c → B ≤ c ∧ c < T := fun c hc => ⟨(h.1.1.bound c hc).1, h.1.2 c hc⟩
    have hB2 : ∀ c, (ms.getD i MS.nil).sv.v.ownBlock = some c → B ≤ c ∧ c < T := fun c hc => ⟨((h.2.2 i hlt).1.bound c hc).1, ((h.2.2 i hlt).2.1 c hc).2⟩
    refine ⟨inR_i64 (by omega), UpTo.next hlt ⟨by rw [hsc]; simp; omega, ⟨_, by rw [List.length_set, List.length_set]; exact hul, ho4.off hg5 (fun c hc e => ((h.2.2 i hlt).2.1 c hc).1 e), fun j => ?_, fun j hj hij => ?_⟩, (((hb.trans (Btw.ext hx2)).trans (Btw.grown hg3 hB1)).trans (Btw.grown hg4 hB1)).trans (Btw.grown hg5 hB2)⟩⟩
    · rw [getD_set, getD_set]
      by_cases hji : i = j
      · subst hji
        rw [if_pos ⟨rfl, by rw [List.length_set]; omega⟩]
        exact hsvi
      · rw [if_neg (fun hh => hji hh.1), if_neg (fun hh => hji hh.1)]
        exact hsv j
    · exact (hin4 j hj (by omega)).off hg5 (fun c hc => (h.2.2 j hj).2.2 i (by omega) c hc)
  · obtain rfl : i = ms.length := by omega
    have hltI : ¬ (ms.length : Int) < ms.length := by omega
    simp only [↓vsd, vsn, gW, qd, qv, ev, pick, argE, zipE, ne_eq, eq_self, forall_const, implies_true, if_true, if_false, reduceIte, reduceCtorEq, Nat.reduceEqDiff, Nat.reduceAdd, Nat.reduceLT, ↓us_lmarkMethodS, r_lmarkMethodS, hq, hul, hltI]
    exact ⟨⟨_, rfl⟩, hb⟩
theorem Btw.ext0 {B T : Nat} {w0 w w' : World} (h : Btw B T w w') (hx : Ext w0 w) (hB : w0.heap.size ≤ B) : Ext w0 w' := Below.trans hx ⟨h.os, h.tape, h.output, h.size, fun g hg => h.block g (Nat.lt_of_lt_of_le hg hx.size) (.inl (by omega))⟩
theorem lFnExactSpliceRows_ok (v : Value) (ms : List MS) (css : List (List (List UInt8))) (b s t : List UInt8) (hB : MBig ms css) (hb : b.length ≤ 9223372036854775807 ∧ s.length ≤ 9223372036854775807) (ht : t.length ≤ 9223372036854775807) (w : World) (h : SqM w v ms css) : Fn 11 [v, kV b s, S t] w (fun r _ => r = .bool true) := by
  (refine callsV_of mix Try.func11 c_lFnExactSpliceRows ?_; simp only [↓vsd, vsn, gW, qd, qv, ev, pick, argE, zipE, ne_eq, eq_self, forall_const, implies_true, if_true, if_false, reduceIte, reduceCtorEq, Nat.reduceEqDiff, Nat.reduceAdd, Nat.reduceLT, ↓us_lFnExactSpliceRows, r_lFnExactSpliceRows])
  refine m_al ?_
  rintro b1 w1 hb1 hblk1 hx1 hs1
  have h1 : Blk w1 b1 (fQ b s) 26 := hblk1
  simp only [↓vsd, vsn, gW, qd, qv, ev, pick, argE, zipE, ne_eq, eq_self, forall_const, implies_true, if_true, if_false, reduceIte, reduceCtorEq, Nat.reduceEqDiff, Nat.reduceAdd, Nat.reduceLT, ↓us_lFnExactSpliceRows, r_lFnExactSpliceRows, h1.facts, fQg]
  refine ⟨fun _ => hx1, fun hct => ?_⟩
  refine m_call (lszMethodS_ok v ms css 1048576 (by decide) hB _ (h.ext hx1)) ?_
  rintro _ w3 hx3 ⟨m, rfl, hm1, hm⟩
  have hx13 := hx1.trans hx3
  have h13 := h1.ext hx3
  simp only [↓vsd, vsn, gW, qd, qv, ev, pick, argE, zipE, ne_eq, eq_self, forall_const, implies_true, if_true, if_false, reduceIte, reduceCtorEq, Nat.reduceEqDiff, Nat.reduceAdd, Nat.reduceLT, ↓us_lFnExactSpliceRows, r_lFnExactSpliceRows, h13.facts, fQg]
  refine ⟨fun _ => hx13, fun h0 => ?_⟩
  obtain ⟨hsm, hfl⟩ := hm h0
  refine m_call (lszCalls_ok b s m ⟨hm1, h0⟩ hb _) ?_
  rintro _ w4 hx4 ⟨m2, rfl, hm21, hm2⟩
  have hx14 := hx13.trans hx4
  have h14 := h13.ext hx4
  simp only [↓vsd, vsn, gW, qd, qv, ev, pick, argE, zipE, ne_eq, eq_self, forall_const, implies_true, if_true, if_false, reduceIte, reduceCtorEq, Nat.reduceEqDiff, Nat.reduceAdd, Nat.reduceLT, ↓us_lFnExactSpliceRows, r_lFnExactSpliceRows, h14.facts, fQg]
  refine ⟨fun _ => hx14, fun h02 => ?_⟩
  have hb := hm2 h02
  have ht : t.length ≤ 1048576 := by omega
  refine m_call (ltoMethodS_ok v ms css hsm _ (by first | exact h.ext hx14 | exact h.ext (dr hx14))) ?_
  rintro x5 w5 hx5 ⟨ms5, hS5, hN5⟩
  have hx5 : Ext w4 w5 := by first | exact hx5 | exact ud hx5 | exact ud (ud hx5)
  have hx15 := hx14.trans hx5
  have h15 := h14.ext hx5
  simp only [↓vsd, vsn, gW, qd, qv, ev, pick, argE, zipE, ne_eq, eq_self, forall_const, implies_true, if_true, if_false, reduceIte, reduceCtorEq, Nat.reduceEqDiff, Nat.reduceAdd, Nat.reduceLT, ↓us_lFnExactSpliceRows, r_lFnExactSpliceRows, h15.facts, fQg]
  refine m_call (ltoCalls_ok b s _) ?_
  rintro _ w6 hx6 rfl
  have hx6 : Ext w5 w6 := by first | exact hx6 | exact ud hx6 | exact ud (ud hx6)
  have hx16 := hx15.trans hx6
  have h16 := h15.ext hx6
  simp only [↓vsd, vsn, gW, qd, qv, ev, pick, argE, zipE, ne_eq, eq_self, forall_const, implies_true, if_true, if_false, reduceIte, reduceCtorEq, Nat.reduceEqDiff, Nat.reduceAdd, Nat.reduceLT, ↓us_lFnExactSpliceRows, r_lFnExactSpliceRows]
  refine m_call (sSpliceRows_ok x5 ms5 css b s t (sameM_small hS5 hsm) hb ht _ (hN5.ext hx6).sq) ?_
  rintro _ w7 hx7 ⟨y7, rfl, ho7⟩
  have hx7 : Ext w6 w7 := by first | exact hx7 | exact ud hx7 | exact ud (ud hx7)
  have ho7 := ho7.to (sameM_v hS5 css b s t)
  simp only [sameM_ok hS5]
  have hLl : (srV ms css b s t).length ≤ 800 := by
    unfold srV
    split
    · rename_i hh; exact hh.2
    · simp
  generalize hLL : srV ms css b s t = L at *
  generalize hRR : decide (SrOk ms css b s t) = R
  have hx17 := hx16.trans hx7
  have h17 := h16.ext hx7
  simp only [↓vsd, vsn, gW, qd, qv, ev, pick, argE, zipE, ne_eq, eq_self, forall_const, implies_true, if_true, if_false, reduceIte, reduceCtorEq, Nat.reduceEqDiff, Nat.reduceAdd, Nat.reduceLT, ↓us_lFnExactSpliceRows, r_lFnExactSpliceRows, h17.facts, fQg]
  refine m_call (ltoMethodS_ok v ms css hsm _ (by first | exact h.ext hx17 | exact h.ext (dr hx17))) ?_
  rintro x8 w8 hx8 ⟨ms8, hS8, hN8⟩
  have hx8 : Ext w7 w8 := by first | exact hx8 | exact ud hx8 | exact ud (ud hx8)
  have hx18 := hx17.trans hx8
  have h18 := h17.ext hx8
  simp only [↓vsd, vsn, gW, qd, qv, ev, pick, argE, zipE, ne_eq, eq_self, forall_const, implies_true, if_true, if_false, reduceIte, reduceCtorEq, Nat.reduceEqDiff, Nat.reduceAdd, Nat.reduceLT, ↓us_lFnExactSpliceRows, r_lFnExactSpliceRows, h18.facts, fQg]
  refine m_call (ltoCalls_ok b s _) ?_
  rintro _ w9 hx9 rfl
  have hx9 : Ext w8 w9 := by first | exact hx9 | exact ud hx9 | exact ud (ud hx9)
  have hx19 := hx18.trans hx9
  have h19 := h18.ext hx9
  simp only [↓vsd, vsn, gW, qd, qv, ev, pick, argE, zipE, ne_eq, eq_self, forall_const, implies_true, if_true, if_false, reduceIte, reduceCtorEq, Nat.reduceEqDiff, Nat.reduceAdd, Nat.reduceLT, ↓us_lFnExactSpliceRows, r_lFnExactSpliceRows]
  refine m_call (iSpliceRows_ok x8 ms8 css b s t (sameM_small hS8 hsm) hb ht _ (hN8.ext hx9).sq) ?_
  rintro _ w10 hx10 ⟨y10, rfl, ho10⟩
  have hx10 : Ext w9 w10 := by first | exact hx10 | exact ud hx10 | exact ud (ud hx10)
  have hx110 := hx19.trans hx10
  have h110 := h19.ext hx10
  have hR8 : decide (SrOk ms8 css b s t) = R := by rw [← hRR]; exact decide_eq_decide.2 (sameM_ok hS8 css b s t)
  have ho10 := ho10.to (show srV ms8 css b s t = L from by rw [← hLL]; exact sameM_v hS8 css b s t)
  rw [hR8]
  simp only [↓vsd, vsn, gW, qd, qv, ev, pick, argE, zipE, ne_eq, eq_self, forall_const, implies_true, if_true, if_false, reduceIte, reduceCtorEq, Nat.reduceEqDiff, Nat.reduceAdd, Nat.reduceLT, ↓us_lFnExactSpliceRows, r_lFnExactSpliceRows]
  have ho710 := (((ho7.ext hx8).ext hx9).ext hx10)
  refine m_call (leqStringS_ok y10 y7 L L _ ho10.sq ho710.sq (by omega)) ?_
  rintro _ w11 hx11 rfl
  have hx111 := hx110.trans hx11
  have h111 := h110.ext hx11
  simp only [↓vsd, vsn, gW, qd, qv, ev, pick, argE, zipE, ne_eq, eq_self, forall_const, implies_true, if_true, if_false, reduceIte, reduceCtorEq, Nat.reduceEqDiff, Nat.reduceAdd, Nat.reduceLT, ↓us_lFnExactSpliceRows, r_lFnExactSpliceRows, h111.facts, fQg]
  refine m_call (ltoMethodS_ok v ms css hsm _ (by first | exact h.ext hx111 | exact h.ext (dr hx111))) ?_
  rintro x12 w12 hx12 ⟨ms12, hS12, hN12⟩
  have hx12 : Ext w11 w12 := by first | exact hx12 | exact ud hx12 | exact ud (ud hx12)
  have hx112 := hx111.trans hx12
  have h112 := h111.ext hx12
  simp only [↓vsd, vsn, gW, qd, qv, ev, pick, argE, zipE, ne_eq, eq_self, forall_const, implies_true, if_true, if_false, reduceIte, reduceCtorEq, Nat.reduceEqDiff, Nat.reduceAdd, Nat.reduceLT, ↓us_lFnExactSpliceRows, r_lFnExactSpliceRows, h112.facts, fQg]
  have hN812 := (((hN8.ext hx9).ext hx10).ext hx11).ext hx12
  have hS812 : SameM ms8 ms12 := ⟨hS12.1.trans hS8.1.symm, fun i => ⟨(hS12.2 i).1.trans (hS8.2 i).1.symm, (hS12.2 i).2.trans (hS8.2 i).2.symm⟩⟩
  refine m_call (leqMethodS_ok x8 x12 ms8 ms12 css (sameM_small hS8 hsm) hS812 _ hN812.sq hN12.sq) ?_
  rintro _ w13 hx13b rfl
  have hx113 := hx112.trans hx13b
  have h113 := h112.ext hx13b
  simp only [↓vsd, vsn, gW, qd, qv, ev, pick, argE, zipE, ne_eq, eq_self, forall_const, implies_true, if_true, if_false, reduceIte, reduceCtorEq, Nat.reduceEqDiff, Nat.reduceAdd, Nat.reduceLT, ↓us_lFnExactSpliceRows, r_lFnExactSpliceRows, h113.facts, fQg]
  have hN813 := hN812.ext hx13b
  have hw17 := hx17.size
  have hdd : w7.drew.heap.size = w7.heap.size := rfl
  refine m_callw (by first | exact .inl rfl | exact .inr rfl) (lmarkMethodS_ok x8 ms8 css _ _ 1 ⟨sameM_small hS8 hsm, hfl⟩ (by omega) _ hN813) ?_
  rintro _ w14 ⟨⟨q14, rfl⟩, hbt14⟩
  have hx114 : Ext w w14 := hbt14.ext0 hx113 hw17
  have hs89 : w8.heap.size ≤ w9.heap.size := hx9.size
  have hs1011 : w10.heap.size ≤ w13.heap.size := by have := hx11.size; have := hx12.size; have := hx13b.size; omega
  have ho1014 := (((ho10.ext hx11).ext hx12).ext hx13b).btw hbt14 (fun g hg => .inr (by have := (ho10.bound g hg).1; simp only [drew_size] at *; omega))
  have ho714 := (((ho710.ext hx11).ext hx12).ext hx13b).btw hbt14 (fun g hg => .inl (by have := ho7.lt g hg; simp only [drew_size] at *; omega))
  have h114 := h113.same (hbt14.block b1 h113.lt (.inl (by have := h17.lt; simp only [drew_size] at *; omega)))
  simp only [↓vsd, vsn, gW, qd, qv, ev, pick, argE, zipE, ne_eq, eq_self, forall_const, implies_true, if_true, if_false, reduceIte, reduceCtorEq, Nat.reduceEqDiff, Nat.reduceAdd, Nat.reduceLT, ↓us_lFnExactSpliceRows, r_lFnExactSpliceRows]
  refine ⟨fun _ => ?_, fun hneg => by omega⟩
  refine m_call (leqStringS_ok y10 y7 L L _ ho1014.sq ho714.sq (by omega)) ?_
  rintro _ w15 hx15b rfl
  have hx115 := hx114.trans hx15b
  simp only [↓vsd, vsn, gW, qd, qv, ev, pick, argE, zipE, ne_eq, eq_self, forall_const, implies_true, if_true, if_false, reduceIte, reduceCtorEq, Nat.reduceEqDiff, Nat.reduceAdd, Nat.reduceLT, ↓us_lFnExactSpliceRows, r_lFnExactSpliceRows]
  refine ⟨fun hneg => by omega, fun _ => ?_⟩
  have ho1015 := ho1014.ext hx15b
  have hs9 : w.heap.size ≤ w9.heap.size := hx19.size
  have hs17 : w7.heap.size ≤ w9.heap.size := by have := hx8.size; omega
  refine m_callw (.inl rfl) (lmarkStringS_ok y10 L _ 1 (by omega) (by omega) _ ho1015) ?_
  rintro _ w16 ⟨rfl, ho1016, hg16⟩
  have hx116 : Ext w w16 := (ho1015.mono (B' := w.heap.size) (by first | omega | (simp only [drew_size]; omega))).grown hx115 (Nat.le_refl _) hg16
  have h115 := h114.ext hx15b
  have h116 := h115.same (hg16.block b1 h115.lt (fun e => by have := (ho1016.bound b1 e.symm).1; have := h17.lt; simp only [drew_size] at *; omega))
  have ho716 := (ho714.ext hx15b).off hg16 (fun c hc => ho7.away (by have := (ho1016.bound c hc).1; simp only [drew_size] at *; omega))
  simp only [↓vsd, vsn, gW, qd, qv, ev, pick, argE, zipE, ne_eq, eq_self, forall_const, implies_true, if_true, if_false, reduceIte, reduceCtorEq, Nat.reduceEqDiff, Nat.reduceAdd, Nat.reduceLT, ↓us_lFnExactSpliceRows, r_lFnExactSpliceRows]
  refine m_call (lheldStringS_ok y10 L.length 1 (by omega) (by omega) _ ho1016.sq) ?_
  rintro _ w17 hx17b rfl
  have hx117 := hx116.trans hx17b
  have h117 := h116.ext hx17b
  simp only [↓vsd, vsn, gW, qd, qv, ev, pick, argE, zipE, ne_eq, eq_self, forall_const, implies_true, if_true, if_false, reduceIte, reduceCtorEq, Nat.reduceEqDiff, Nat.reduceAdd, Nat.reduceLT, ↓us_lFnExactSpliceRows, r_lFnExactSpliceRows, h117.facts, fQg]
  refine ⟨fun hneg => by omega, fun _ => ?_⟩
  refine m_call (ltoMethodS_ok v ms css hsm _ (by first | exact h.ext hx117 | exact h.ext (dr hx117))) ?_
  rintro x18 w18 hx18b ⟨ms18, hS18, hN18⟩
  have hx18b : Ext w17 w18 := by first | exact hx18b | exact ud hx18b | exact ud (ud hx18b)
  have hx118 := hx117.trans hx18b
  have h118 := h117.ext hx18b
  simp only [↓vsd, vsn, gW, qd, qv, ev, pick, argE, zipE, ne_eq, eq_self, forall_const, implies_true, if_true, if_false, reduceIte, reduceCtorEq, Nat.reduceEqDiff, Nat.reduceAdd, Nat.reduceLT, ↓us_lFnExactSpliceRows, r_lFnExactSpliceRows, h118.facts, fQg]
  refine m_call (ltoCalls_ok b s _) ?_
  rintro _ w19 hx19b rfl
  have hx19b : Ext w18 w19 := by first | exact hx19b | exact ud hx19b | exact ud (ud hx19b)
  simp only [↓vsd, vsn, gW, qd, qv, ev, pick, argE, zipE, ne_eq, eq_self, forall_const, implies_true, if_true, if_false, reduceIte, reduceCtorEq, Nat.reduceEqDiff, Nat.reduceAdd, Nat.reduceLT, ↓us_lFnExactSpliceRows, r_lFnExactSpliceRows]
  refine m_call (iSpliceRows_ok x18 ms18 css b s t (sameM_small hS18 hsm) hb ht _ (hN18.ext hx19b).sq) ?_
  rintro _ w20 hx20b ⟨y20, rfl, ho20⟩
  have hx20b : Ext w19 w20 := by first | exact hx20b | exact ud hx20b | exact ud (ud hx20b)
  have hx1720 := (hx18b.trans hx19b).trans hx20b
  have hR18 : decide (SrOk ms18 css b s t) = R := by rw [← hRR]; exact decide_eq_decide.2 (sameM_ok hS18 css b s t)
  have ho20 := ho20.to (show srV ms18 css b s t = L from by rw [← hLL]; exact sameM_v hS18 css b s t)
  rw [hR18]
  simp only [↓vsd, vsn, gW, qd, qv, ev, pick, argE, zipE, ne_eq, eq_self, forall_const, implies_true, if_true, if_false, reduceIte, reduceCtorEq, Nat.reduceEqDiff, Nat.reduceAdd, Nat.reduceLT, ↓us_lFnExactSpliceRows, r_lFnExactSpliceRows]
  refine m_call (leqStringS_ok y20 y7 L L _ ho20.sq ((ho716.ext hx17b).ext hx1720).sq (by omega)) ?_
  rintro _ w21 hx21b rfl
  simp only [↓vsd, vsn, gW, qd, qv, ev, pick, argE, zipE, ne_eq, eq_self, forall_const, implies_true, if_true, if_false, reduceIte, reduceCtorEq, Nat.reduceEqDiff, Nat.reduceAdd, Nat.reduceLT, ↓us_lFnExactSpliceRows, r_lFnExactSpliceRows]
  refine m_call (lheldStringS_ok y10 L.length 1 (by omega) (by omega) _ (((ho1016.ext hx17b).ext hx1720).ext hx21b).sq) ?_
  rintro _ w22 hx22b rfl
  simp only [↓vsd, vsn, gW, qd, qv, ev, pick, argE, zipE, ne_eq, eq_self, forall_const, implies_true, if_true, if_false, reduceIte, reduceCtorEq, Nat.reduceEqDiff, Nat.reduceAdd, Nat.reduceLT, ↓us_lFnExactSpliceRows, r_lFnExactSpliceRows]
  exact ⟨fun h => by omega, fun _ => ((hx117.trans hx1720).trans hx21b).trans hx22b⟩
end Go.Proofs.Ytnhealghpfjdcaa
