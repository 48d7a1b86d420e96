/-
  Liked lists: GoodLiked, and the law's helpers for them.
  Conditions: none.
-/
import Derived.Test.YtpnopboffalfnaaA2
set_option linter.unusedSimpArgs false
set_option linter.unusedVariables false
set_option linter.defProp false
namespace Go.Proofs.Ytpnopboffalfnaa
open Go Go.RowKit
section
variable (P : Program) (k : KT) (e : Env) (w : World)
abbrev b191_1 : X := (.cond (.t 11) (.seq (.reg [4] (.c (.q 4 [] (.mv (.c (.int .i64 (-1))))) .nil)) .ret) .skip)
def t191_1 := b191_1
theorem u191_1 : vcK P t191_1 k e w = vcK P b191_1 k e w := rfl
abbrev b191_2 : X := (.seq (.reg [4] (.c (.q 12 [] (.mv (.t 1))) (.c (.q 4 [] (.mv (.t 12))) .nil))) .ret)
def t191_2 := b191_2
theorem u191_2 : vcK P t191_2 k e w = vcK P b191_2 k e w := rfl
abbrev b191_3 : X := (.seq (.seq (.reg [1, 11] (.c (.q 10 [] (.mv (.t 1))) (.c (.q 11 [] (.bin .lss (.t 10) (.c (.int .i64 0)))) .nil))) t191_1) t191_2)
def t191_3 := b191_3
theorem u191_3 : vcK P t191_3 k e w = vcK P b191_3 k e w := rfl
abbrev b191_4 : X := (.seq (.reg [1] (.c (.q 5 [] (.mv (.t 1))) (.c (.q 6 [] (.fa 0 (.t 2))) (.c (.q 7 [] (.ld (.t 6))) (.c (.q 8 [] (.len (.t 7))) (.c (.q 9 [] (.bin .sub (.t 5) (.t 8))) (.c (.q 1 [] (.mv (.t 9))) .nil))))))) t191_3)
def t191_4 := b191_4
theorem u191_4 : vcK P t191_4 k e w = vcK P b191_4 k e w := rfl
abbrev b191_0 : X := (.seq (.reg [1, 2] (.c (.e (some 2) [] (.box 148 (.t 0))) (.c (.q 4 [] (.mv (.c (.int .i64 0)))) .nil))) t191_4)
def x_lszLiked := b191_0
theorem u191_0 : vcK P x_lszLiked k e w = vcK P b191_0 k e w := rfl
def r_lszLiked : List XO := [(.mv (.t 4))]
theorem c_lszLiked : convF Try.prog [169, 170, 207, 208, 210, 227, 232, 233, 255, 259, 268, 269, 270, 280, 281, 296, 299, 306, 307, 309] Try.f191 [([1, 2], []), ([1], []), ([1, 11], []), ([4], []), ([4], [])] = some (x_lszLiked, r_lszLiked) := by kernel_rfl
def us_lszLiked := aI @u191_0 (aI @u191_1 (aI @u191_2 (aI @u191_3 @u191_4)))
abbrev b49_1 : X := (.cond (.t 11) (.seq (.reg [4] (.c (.q 4 [] (.mv (.c (.int .i64 (-1))))) .nil)) .ret) .skip)
def t49_1 := b49_1
theorem u49_1 : vcK P t49_1 k e w = vcK P b49_1 k e w := rfl
abbrev b49_2 : X := (.cond (.t 15) .skip (.exit 0))
def t49_2 := b49_2
theorem u49_2 : vcK P t49_2 k e w = vcK P b49_2 k e w := rfl
abbrev b49_3 : X := (.cond (.t 25) (.seq (.reg [4] (.c (.q 4 [] (.mv (.c (.int .i64 (-1))))) .nil)) .ret) .skip)
def t49_3 := b49_3
theorem u49_3 : vcK P t49_3 k e w = vcK P b49_3 k e w := rfl
abbrev b49_4 : X := (.seq (.reg [0, 1, 5, 25] (.c (.q 24 [] (.mv (.t 1))) (.c (.q 25 [] (.bin .lss (.t 24) (.c (.int .i64 0)))) .nil))) t49_3)
def t49_4 := b49_4
theorem u49_4 : vcK P t49_4 k e w = vcK P b49_4 k e w := rfl
abbrev b49_5 : X := (.reg [0, 1, 5] (.c (.q 16 [] (.mv (.t 5))) (.c (.q 17 [] (.bin .add (.t 16) (.c (.int .i64 1)))) (.c (.q 5 [] (.mv (.t 17))) .nil))))
def t49_5 := b49_5
theorem u49_5 : vcK P t49_5 k e w = vcK P b49_5 k e w := rfl
abbrev b49_6 : X := (.seq (.blk 1 (.seq (.reg [0, 1, 5] (.c (.q 18 [] (.mv (.t 0))) (.c (.q 19 [] (.mv (.t 5))) (.c (.q 20 [] (.ia 2 (.t 18) (.t 19))) (.c (.q 21 [] (.lda 2 (.t 20))) (.c (.q 22 [] (.mv (.t 1))) (.c (.e (some 23) [] (.call false 191 [(.t 21), (.t 22)])) (.c (.q 1 [] (.mv (.t 23))) .nil)))))))) t49_4)) t49_5)
def t49_6 := b49_6
theorem u49_6 : vcK P t49_6 k e w = vcK P b49_6 k e w := rfl
abbrev b49_7 : X := (.seq (.seq (.reg [0, 1, 5, 15] (.c (.q 12 [] (.mv (.t 5))) (.c (.q 13 [] (.mv (.t 0))) (.c (.q 14 [] (.lens (.t 13))) (.c (.q 15 [] (.bin .lss (.t 12) (.t 14))) .nil))))) t49_2) t49_6)
def t49_7 := b49_7
theorem u49_7 : vcK P t49_7 k e w = vcK P b49_7 k e w := rfl
abbrev b49_8 : X := (.blk 0 (.loop [1, 5] [0] t49_7))
def t49_8 := b49_8
theorem u49_8 : vcK P t49_8 k e w = vcK P b49_8 k e w := rfl
abbrev b49_9 : X := (.seq (.reg [4] (.c (.q 26 [] (.mv (.t 1))) (.c (.q 4 [] (.mv (.t 26))) .nil))) .ret)
def t49_9 := b49_9
theorem u49_9 : vcK P t49_9 k e w = vcK P b49_9 k e w := rfl
abbrev b49_10 : X := (.seq (.seq (.reg [0, 1, 5] (.c (.q 5 [] (.mv (.c (.int .i64 0)))) .nil)) t49_8) t49_9)
def t49_10 := b49_10
theorem u49_10 : vcK P t49_10 k e w = vcK P b49_10 k e w := rfl
abbrev b49_11 : X := (.seq (.seq (.reg [0, 1, 11] (.c (.q 10 [] (.mv (.t 1))) (.c (.q 11 [] (.bin .lss (.t 10) (.c (.int .i64 0)))) .nil))) t49_1) t49_10)
def t49_11 := b49_11
theorem u49_11 : vcK P t49_11 k e w = vcK P b49_11 k e w := rfl
abbrev b49_12 : X := (.seq (.reg [0, 1] (.c (.q 6 [] (.mv (.t 1))) (.c (.q 7 [] (.mv (.t 0))) (.c (.q 8 [] (.lens (.t 7))) (.c (.q 9 [] (.bin .sub (.t 6) (.t 8))) (.c (.q 1 [] (.mv (.t 9))) .nil)))))) t49_11)
def t49_12 := b49_12
theorem u49_12 : vcK P t49_12 k e w = vcK P b49_12 k e w := rfl
abbrev b49_0 : X := (.seq (.reg [0, 1] (.c (.q 4 [] (.mv (.c (.int .i64 0)))) .nil)) t49_12)
def x_lszLikedS := b49_0
theorem u49_0 : vcK P x_lszLikedS k e w = vcK P b49_0 k e w := rfl
def r_lszLikedS : List XO := [(.mv (.t 4))]
theorem c_lszLikedS : convF Try.prog [169, 170, 207, 208, 210, 227, 232, 233, 255, 259, 268, 269, 270, 280, 281, 296, 299, 306, 307, 309] Try.f49 [([0, 1], []), ([0, 1], []), ([0, 1, 11], []), ([4], []), ([0, 1, 5], []), ([1, 5], [0]), ([0, 1, 5, 15], []), ([0, 1, 5], []), ([0, 1, 5, 25], []), ([4], []), ([0, 1, 5], []), ([4], [])] = some (x_lszLikedS, r_lszLikedS) := by kernel_rfl
def us_lszLikedS := aI @u49_0 (aI @u49_1 (aI @u49_2 (aI @u49_3 (aI @u49_4 (aI @u49_5 (aI @u49_6 (aI @u49_7 (aI @u49_8 (aI @u49_9 (aI @u49_10 (aI @u49_11 @u49_12)))))))))))
abbrev b197_1 : X := (.seq (.reg [2] (.c (.q 10 [] (.lda 2 (.t 3))) (.c (.e none [] (.st 2 (.t 2) (.t 10))) .nil))) .ret)
def t197_1 := b197_1
theorem u197_1 : vcK P t197_1 k e w = vcK P b197_1 k e w := rfl
abbrev b197_2 : X := (.seq (.reg [2, 3] (.c (.q 7 [] (.fa 1 (.t 1))) (.c (.q 8 [] (.ld (.t 7))) (.c (.q 9 [] (.fa 1 (.t 3))) (.c (.e none [] (.st 1 (.t 9) (.t 8))) .nil))))) t197_1)
def t197_2 := b197_2
theorem u197_2 : vcK P t197_2 k e w = vcK P b197_2 k e w := rfl
abbrev b197_3 : X := (.seq (.reg [1, 2, 3] (.c (.q 4 [] (.fa 0 (.t 1))) (.c (.q 5 [] (.ld (.t 4))) (.c (.q 6 [] (.fa 0 (.t 3))) (.c (.e none [] (.st 1 (.t 6) (.t 5))) .nil))))) t197_2)
def t197_3 := b197_3
theorem u197_3 : vcK P t197_3 k e w = vcK P b197_3 k e w := rfl
abbrev b197_4 : X := (.seq (.reg [1, 2, 3] (.c (.e (some 3) [] (.al 151 [(S []), (.int .i64 0)])) .nil)) t197_3)
def t197_4 := b197_4
theorem u197_4 : vcK P t197_4 k e w = vcK P b197_4 k e w := rfl
abbrev b197_0 : X := (.seq (.reg [1, 2] (.c (.e (some 1) [] (.box 148 (.t 0))) (.c (.e (some 2) [] (.al 151 [(S []), (.int .i64 0)])) .nil))) t197_4)
def x_ltoLiked := b197_0
theorem u197_0 : vcK P x_ltoLiked k e w = vcK P b197_0 k e w := rfl
def r_ltoLiked : List XO := [(.lda 2 (.t 2))]
theorem c_ltoLiked : convF Try.prog [169, 170, 207, 208, 210, 227, 232, 233, 255, 259, 268, 269, 270, 280, 281, 296, 299, 306, 307, 309] Try.f197 [([1, 2], []), ([1, 2, 3], []), ([1, 2, 3], []), ([2, 3], []), ([2], [])] = some (x_ltoLiked, r_ltoLiked) := by kernel_rfl
def us_ltoLiked := aI @u197_0 (aI @u197_1 (aI @u197_2 (aI @u197_3 @u197_4)))
abbrev b52_1 : X := (.cond (.t 11) .skip (.exit 0))
def t52_1 := b52_1
theorem u52_1 : vcK P t52_1 k e w = vcK P b52_1 k e w := rfl
abbrev b52_2 : X := (.reg [0, 3, 4] (.c (.q 12 [] (.mv (.t 4))) (.c (.q 13 [] (.bin .add (.t 12) (.c (.int .i64 1)))) (.c (.q 4 [] (.mv (.t 13))) .nil))))
def t52_2 := b52_2
theorem u52_2 : vcK P t52_2 k e w = vcK P b52_2 k e w := rfl
abbrev b52_3 : X := (.seq (.blk 1 (.reg [0, 3, 4] (.c (.q 14 [] (.mv (.t 3))) (.c (.q 15 [] (.mv (.t 4))) (.c (.q 16 [] (.mv (.t 0))) (.c (.q 17 [] (.mv (.t 4))) (.c (.q 18 [] (.ia 2 (.t 16) (.t 17))) (.c (.q 19 [] (.lda 2 (.t 18))) (.c (.e (some 20) [] (.call false 197 [(.t 19)])) (.c (.q 21 [] (.ia 2 (.t 14) (.t 15))) (.c (.e none [] (.st 2 (.t 21) (.t 20))) .nil))))))))))) t52_2)
def t52_3 := b52_3
theorem u52_3 : vcK P t52_3 k e w = vcK P b52_3 k e w := rfl
abbrev b52_4 : X := (.seq (.seq (.reg [0, 3, 4, 11] (.c (.q 8 [] (.mv (.t 4))) (.c (.q 9 [] (.mv (.t 0))) (.c (.q 10 [] (.lens (.t 9))) (.c (.q 11 [] (.bin .lss (.t 8) (.t 10))) .nil))))) t52_1) t52_3)
def t52_4 := b52_4
theorem u52_4 : vcK P t52_4 k e w = vcK P b52_4 k e w := rfl
abbrev b52_5 : X := (.blk 0 (.loop [4] [0, 3] t52_4))
def t52_5 := b52_5
theorem u52_5 : vcK P t52_5 k e w = vcK P b52_5 k e w := rfl
abbrev b52_6 : X := (.seq (.reg [2] (.c (.q 22 [] (.mv (.t 3))) (.c (.q 2 [] (.mv (.t 22))) .nil))) .ret)
def t52_6 := b52_6
theorem u52_6 : vcK P t52_6 k e w = vcK P b52_6 k e w := rfl
abbrev b52_7 : X := (.seq (.seq (.reg [0, 3, 4] (.c (.q 4 [] (.mv (.c (.int .i64 0)))) .nil)) t52_5) t52_6)
def t52_7 := b52_7
theorem u52_7 : vcK P t52_7 k e w = vcK P b52_7 k e w := rfl
abbrev b52_8 : X := (.seq (.reg [0, 3] (.c (.q 5 [] (.mv (.t 0))) (.c (.q 6 [] (.lens (.t 5))) (.c (.e (some 7) [] (.msl 73 151 2 24 [(S []), (.int .i64 0)] (.t 6) (.t 6))) (.c (.q 3 [] (.mv (.t 7))) .nil))))) t52_7)
def t52_8 := b52_8
theorem u52_8 : vcK P t52_8 k e w = vcK P b52_8 k e w := rfl
abbrev b52_0 : X := (.seq (.reg [0] (.c (.q 2 [] (.mv (.c (.slice none 0 0)))) .nil)) t52_8)
def x_ltoLikedS := b52_0
theorem u52_0 : vcK P x_ltoLikedS k e w = vcK P b52_0 k e w := rfl
def r_ltoLikedS : List XO := [(.mv (.t 2))]
theorem c_ltoLikedS : convF Try.prog [169, 170, 207, 208, 210, 227, 232, 233, 255, 259, 268, 269, 270, 280, 281, 296, 299, 306, 307, 309] Try.f52 [([0], []), ([0, 3], []), ([0, 3, 4], []), ([4], [0, 3]), ([0, 3, 4, 11], []), ([0, 3, 4], []), ([0, 3, 4], []), ([2], [])] = some (x_ltoLikedS, r_ltoLikedS) := by kernel_rfl
def us_ltoLikedS := aI @u52_0 (aI @u52_1 (aI @u52_2 (aI @u52_3 (aI @u52_4 (aI @u52_5 (aI @u52_6 (aI @u52_7 @u52_8)))))))
abbrev b192_1 : X := (.cond (.t 20) (.seq (.reg [2] (.c (.q 2 [] (.mv (.c (.bool false)))) .nil)) .ret) .skip)
def t192_1 := b192_1
theorem u192_1 : vcK P t192_1 k e w = vcK P b192_1 k e w := rfl
abbrev b192_2 : X := (.seq (.reg [0, 5, 6, 7, 20] (.c (.q 11 [] (.fa 0 (.t 4))) (.c (.q 12 [] (.ld (.t 11))) (.c (.e (some 13) [] (.call false 286 [(.t 12)])) (.c (.q 14 [] (.not (.t 13))) (.c (.q 15 [] (.mv (.t 14))) (.c (.q 16 [(15, false)] (.fa 1 (.t 4))) (.c (.q 17 [(15, false)] (.ld (.t 16))) (.c (.e (some 18) [(15, false)] (.call false 173 [(.t 17), (.c (.int .i64 (-100))), (.c (.int .i64 100))])) (.c (.q 19 [(15, false)] (.not (.t 18))) (.c (.q 20 [] (.pick (.t 15) (.c (.bool true)) (.t 19))) .nil))))))))))) t192_1)
def t192_2 := b192_2
theorem u192_2 : vcK P t192_2 k e w = vcK P b192_2 k e w := rfl
abbrev b192_3 : X := (.reg [0, 5, 6, 7] (.c (.q 21 [] (.bin .add (.t 7) (.c (.int .i64 1)))) (.c (.q 7 [] (.mv (.t 21))) .nil)))
def t192_3 := b192_3
theorem u192_3 : vcK P t192_3 k e w = vcK P b192_3 k e w := rfl
abbrev b192_4 : X := (.seq (.blk 1 (.seq (.reg [0, 4, 5, 6, 7] (.c (.q 9 [] (.ia 2 (.t 5) (.t 7))) (.c (.q 10 [] (.lda 2 (.t 9))) (.c (.e (some 4) [] (.al 151 [(S []), (.int .i64 0)])) (.c (.e none [] (.st 2 (.t 4) (.t 10))) .nil))))) t192_2)) t192_3)
def t192_4 := b192_4
theorem u192_4 : vcK P t192_4 k e w = vcK P b192_4 k e w := rfl
abbrev b192_5 : X := (.seq (.cond (.t 8) .skip (.exit 0)) t192_4)
def t192_5 := b192_5
theorem u192_5 : vcK P t192_5 k e w = vcK P b192_5 k e w := rfl
abbrev b192_6 : X := (.seq (.reg [0, 5, 6, 7, 8] (.c (.q 8 [] (.bin .lss (.t 7) (.t 6))) .nil)) t192_5)
def t192_6 := b192_6
theorem u192_6 : vcK P t192_6 k e w = vcK P b192_6 k e w := rfl
abbrev b192_7 : X := (.blk 0 (.loop [7] [0, 5, 6] t192_6))
def t192_7 := b192_7
theorem u192_7 : vcK P t192_7 k e w = vcK P b192_7 k e w := rfl
abbrev b192_8 : X := (.seq (.reg [2] (.c (.q 22 [] (.mv (.t 0))) (.c (.q 23 [] (.lens (.t 22))) (.c (.q 24 [] (.bin .leq (.t 23) (.c (.int .i64 8)))) (.c (.q 2 [] (.mv (.t 24))) .nil))))) .ret)
def t192_8 := b192_8
theorem u192_8 : vcK P t192_8 k e w = vcK P b192_8 k e w := rfl
abbrev b192_9 : X := (.seq (.seq (.reg [0, 5, 6, 7] (.c (.q 5 [] (.mv (.t 0))) (.c (.q 6 [] (.lens (.t 5))) (.c (.q 7 [] (.mv (.c (.int .i64 0)))) .nil)))) t192_7) t192_8)
def t192_9 := b192_9
theorem u192_9 : vcK P t192_9 k e w = vcK P b192_9 k e w := rfl
abbrev b192_0 : X := (.seq (.reg [0] (.c (.q 2 [] (.mv (.c (.bool false)))) .nil)) t192_9)
def x_sl16Liked := b192_0
theorem u192_0 : vcK P x_sl16Liked k e w = vcK P b192_0 k e w := rfl
def r_sl16Liked : List XO := [(.mv (.t 2))]
theorem c_sl16Liked : convF Try.prog [169, 170, 207, 208, 210, 227, 232, 233, 255, 259, 268, 269, 270, 280, 281, 296, 299, 306, 307, 309] Try.f192 [([0], []), ([0, 5, 6, 7], []), ([7], [0, 5, 6]), ([0, 5, 6, 7, 8], []), ([0, 4, 5, 6, 7], []), ([0, 5, 6, 7, 20], []), ([2], []), ([0, 5, 6, 7], []), ([2], [])] = some (x_sl16Liked, r_sl16Liked) := by kernel_rfl
def us_sl16Liked := aI @u192_0 (aI @u192_1 (aI @u192_2 (aI @u192_3 (aI @u192_4 (aI @u192_5 (aI @u192_6 (aI @u192_7 (aI @u192_8 @u192_9))))))))
abbrev b152_1 : X := (.seq (.reg [2] (.c (.q 3 [] (.mv (.t 0))) (.c (.e (some 4) [] (.call false 192 [(.t 3)])) (.c (.q 2 [] (.mv (.t 4))) .nil)))) .ret)
def t152_1 := b152_1
theorem u152_1 : vcK P t152_1 k e w = vcK P b152_1 k e w := rfl
abbrev b152_0 : X := (.seq (.reg [0] (.c (.q 2 [] (.mv (.c (.bool false)))) .nil)) t152_1)
def x_sGoodLiked := b152_0
theorem u152_0 : vcK P x_sGoodLiked k e w = vcK P b152_0 k e w := rfl
def r_sGoodLiked : List XO := [(.mv (.t 2))]
theorem c_sGoodLiked : convF Try.prog [169, 170, 207, 208, 210, 227, 232, 233, 255, 259, 268, 269, 270, 280, 281, 296, 299, 306, 307, 309] Try.f152 [([0], []), ([2], [])] = some (x_sGoodLiked, r_sGoodLiked) := by kernel_rfl
def us_sGoodLiked := aI @u152_0 @u152_1
abbrev b151_1 : X := (.cond (.t 20) (.seq (.reg [2] (.c (.q 2 [] (.mv (.c (.bool false)))) .nil)) .ret) .skip)
def t151_1 := b151_1
theorem u151_1 : vcK P t151_1 k e w = vcK P b151_1 k e w := rfl
abbrev b151_2 : X := (.seq (.reg [0, 5, 6, 7, 20] (.c (.q 11 [] (.fa 0 (.t 4))) (.c (.q 12 [] (.ld (.t 11))) (.c (.e (some 13) [] (.call false 272 [(.t 12)])) (.c (.q 14 [] (.not (.t 13))) (.c (.q 15 [] (.mv (.t 14))) (.c (.q 16 [(15, false)] (.fa 1 (.t 4))) (.c (.q 17 [(15, false)] (.ld (.t 16))) (.c (.e (some 18) [(15, false)] (.call false 266 [(.t 17), (.c (.int .i64 (-100))), (.c (.int .i64 100))])) (.c (.q 19 [(15, false)] (.not (.t 18))) (.c (.q 20 [] (.pick (.t 15) (.c (.bool true)) (.t 19))) .nil))))))))))) t151_1)
def t151_2 := b151_2
theorem u151_2 : vcK P t151_2 k e w = vcK P b151_2 k e w := rfl
abbrev b151_3 : X := (.reg [0, 5, 6, 7] (.c (.q 21 [] (.bin .add (.t 7) (.c (.int .i64 1)))) (.c (.q 7 [] (.mv (.t 21))) .nil)))
def t151_3 := b151_3
theorem u151_3 : vcK P t151_3 k e w = vcK P b151_3 k e w := rfl
abbrev b151_4 : X := (.seq (.blk 1 (.seq (.reg [0, 4, 5, 6, 7] (.c (.q 9 [] (.ia 2 (.t 5) (.t 7))) (.c (.q 10 [] (.lda 2 (.t 9))) (.c (.e (some 4) [] (.al 151 [(S []), (.int .i64 0)])) (.c (.e none [] (.st 2 (.t 4) (.t 10))) .nil))))) t151_2)) t151_3)
def t151_4 := b151_4
theorem u151_4 : vcK P t151_4 k e w = vcK P b151_4 k e w := rfl
abbrev b151_5 : X := (.seq (.cond (.t 8) .skip (.exit 0)) t151_4)
def t151_5 := b151_5
theorem u151_5 : vcK P t151_5 k e w = vcK P b151_5 k e w := rfl
abbrev b151_6 : X := (.seq (.reg [0, 5, 6, 7, 8] (.c (.q 8 [] (.bin .lss (.t 7) (.t 6))) .nil)) t151_5)
def t151_6 := b151_6
theorem u151_6 : vcK P t151_6 k e w = vcK P b151_6 k e w := rfl
abbrev b151_7 : X := (.blk 0 (.loop [7] [0, 5, 6] t151_6))
def t151_7 := b151_7
theorem u151_7 : vcK P t151_7 k e w = vcK P b151_7 k e w := rfl
abbrev b151_8 : X := (.seq (.reg [2] (.c (.q 22 [] (.mv (.t 0))) (.c (.q 23 [] (.lens (.t 22))) (.c (.q 24 [] (.bin .leq (.t 23) (.c (.int .i64 8)))) (.c (.q 2 [] (.mv (.t 24))) .nil))))) .ret)
def t151_8 := b151_8
theorem u151_8 : vcK P t151_8 k e w = vcK P b151_8 k e w := rfl
abbrev b151_9 : X := (.seq (.seq (.reg [0, 5, 6, 7] (.c (.q 5 [] (.mv (.t 0))) (.c (.q 6 [] (.lens (.t 5))) (.c (.q 7 [] (.mv (.c (.int .i64 0)))) .nil)))) t151_7) t151_8)
def t151_9 := b151_9
theorem u151_9 : vcK P t151_9 k e w = vcK P b151_9 k e w := rfl
abbrev b151_0 : X := (.seq (.reg [0] (.c (.q 2 [] (.mv (.c (.bool false)))) .nil)) t151_9)
def x_iGoodLiked := b151_0
theorem u151_0 : vcK P x_iGoodLiked k e w = vcK P b151_0 k e w := rfl
def r_iGoodLiked : List XO := [(.mv (.t 2))]
theorem c_iGoodLiked : convF Try.prog [169, 170, 207, 208, 210, 227, 232, 233, 255, 259, 268, 269, 270, 280, 281, 296, 299, 306, 307, 309] Try.f151 [([0], []), ([0, 5, 6, 7], []), ([7], [0, 5, 6]), ([0, 5, 6, 7, 8], []), ([0, 4, 5, 6, 7], []), ([0, 5, 6, 7, 20], []), ([2], []), ([0, 5, 6, 7], []), ([2], [])] = some (x_iGoodLiked, r_iGoodLiked) := by kernel_rfl
def us_iGoodLiked := aI @u151_0 (aI @u151_1 (aI @u151_2 (aI @u151_3 (aI @u151_4 (aI @u151_5 (aI @u151_6 (aI @u151_7 (aI @u151_8 @u151_9))))))))
abbrev b200_1 : X := (.cond (.t 9) (.seq (.reg [4] (.c (.q 4 [] (.mv (.c (.bool false)))) .nil)) .ret) .skip)
def t200_1 := b200_1
theorem u200_1 : vcK P t200_1 k e w = vcK P b200_1 k e w := rfl
abbrev b200_2 : X := (.cond (.t 14) (.seq (.reg [4] (.c (.q 4 [] (.mv (.c (.bool false)))) .nil)) .ret) .skip)
def t200_2 := b200_2
theorem u200_2 : vcK P t200_2 k e w = vcK P b200_2 k e w := rfl
abbrev b200_3 : X := (.seq (.reg [4] (.c (.q 4 [] (.mv (.c (.bool true)))) .nil)) .ret)
def t200_3 := b200_3
theorem u200_3 : vcK P t200_3 k e w = vcK P b200_3 k e w := rfl
abbrev b200_4 : X := (.seq (.seq (.reg [14] (.c (.q 10 [] (.fa 1 (.t 2))) (.c (.q 11 [] (.ld (.t 10))) (.c (.q 12 [] (.fa 1 (.t 3))) (.c (.q 13 [] (.ld (.t 12))) (.c (.q 14 [] (.bin .neq (.t 11) (.t 13))) .nil)))))) t200_2) t200_3)
def t200_4 := b200_4
theorem u200_4 : vcK P t200_4 k e w = vcK P b200_4 k e w := rfl
abbrev b200_5 : X := (.seq (.seq (.reg [2, 3, 9] (.c (.q 5 [] (.fa 0 (.t 2))) (.c (.q 6 [] (.ld (.t 5))) (.c (.q 7 [] (.fa 0 (.t 3))) (.c (.q 8 [] (.ld (.t 7))) (.c (.q 9 [] (.bin .neq (.t 6) (.t 8))) .nil)))))) t200_1) t200_4)
def t200_5 := b200_5
theorem u200_5 : vcK P t200_5 k e w = vcK P b200_5 k e w := rfl
abbrev b200_0 : X := (.seq (.reg [2, 3] (.c (.e (some 2) [] (.box 151 (.t 0))) (.c (.e (some 3) [] (.box 151 (.t 1))) (.c (.q 4 [] (.mv (.c (.bool false)))) .nil)))) t200_5)
def x_leqLiked := b200_0
theorem u200_0 : vcK P x_leqLiked k e w = vcK P b200_0 k e w := rfl
def r_leqLiked : List XO := [(.mv (.t 4))]
theorem c_leqLiked : convF Try.prog [169, 170, 207, 208, 210, 227, 232, 233, 255, 259, 268, 269, 270, 280, 281, 296, 299, 306, 307, 309] Try.f200 [([2, 3], []), ([2, 3, 9], []), ([4], []), ([14], []), ([4], []), ([4], [])] = some (x_leqLiked, r_leqLiked) := by kernel_rfl
def us_leqLiked := aI @u200_0 (aI @u200_1 (aI @u200_2 (aI @u200_3 (aI @u200_4 @u200_5))))
abbrev b56_1 : X := (.cond (.t 10) (.seq (.reg [4] (.c (.q 4 [] (.mv (.c (.bool false)))) .nil)) .ret) .skip)
def t56_1 := b56_1
theorem u56_1 : vcK P t56_1 k e w = vcK P b56_1 k e w := rfl
abbrev b56_2 : X := (.cond (.t 14) .skip (.exit 0))
def t56_2 := b56_2
theorem u56_2 : vcK P t56_2 k e w = vcK P b56_2 k e w := rfl
abbrev b56_3 : X := (.cond (.t 26) (.seq (.reg [4] (.c (.q 4 [] (.mv (.c (.bool false)))) .nil)) .ret) .skip)
def t56_3 := b56_3
theorem u56_3 : vcK P t56_3 k e w = vcK P b56_3 k e w := rfl
abbrev b56_4 : X := (.reg [0, 1, 5] (.c (.q 15 [] (.mv (.t 5))) (.c (.q 16 [] (.bin .add (.t 15) (.c (.int .i64 1)))) (.c (.q 5 [] (.mv (.t 16))) .nil))))
def t56_4 := b56_4
theorem u56_4 : vcK P t56_4 k e w = vcK P b56_4 k e w := rfl
abbrev b56_5 : X := (.seq (.blk 1 (.seq (.drw [0, 1, 5, 26] (.c (.q 17 [] (.mv (.t 0))) (.c (.q 18 [] (.mv (.t 5))) (.c (.q 19 [] (.ia 2 (.t 17) (.t 18))) (.c (.q 20 [] (.lda 2 (.t 19))) (.c (.q 21 [] (.mv (.t 1))) (.c (.q 22 [] (.mv (.t 5))) (.c (.q 23 [] (.ia 2 (.t 21) (.t 22))) (.c (.q 24 [] (.lda 2 (.t 23))) (.c (.e (some 25) [] (.call false 200 [(.t 20), (.t 24)])) (.c (.q 26 [] (.not (.t 25))) .nil))))))))))) t56_3)) t56_4)
def t56_5 := b56_5
theorem u56_5 : vcK P t56_5 k e w = vcK P b56_5 k e w := rfl
abbrev b56_6 : X := (.seq (.seq (.reg [0, 1, 5, 14] (.c (.q 11 [] (.mv (.t 5))) (.c (.q 12 [] (.mv (.t 0))) (.c (.q 13 [] (.lens (.t 12))) (.c (.q 14 [] (.bin .lss (.t 11) (.t 13))) .nil))))) t56_2) t56_5)
def t56_6 := b56_6
theorem u56_6 : vcK P t56_6 k e w = vcK P b56_6 k e w := rfl
abbrev b56_7 : X := (.blk 0 (.loop [5] [0, 1] t56_6))
def t56_7 := b56_7
theorem u56_7 : vcK P t56_7 k e w = vcK P b56_7 k e w := rfl
abbrev b56_8 : X := (.seq (.reg [4] (.c (.q 4 [] (.mv (.c (.bool true)))) .nil)) .ret)
def t56_8 := b56_8
theorem u56_8 : vcK P t56_8 k e w = vcK P b56_8 k e w := rfl
abbrev b56_9 : X := (.seq (.seq (.reg [0, 1, 5] (.c (.q 5 [] (.mv (.c (.int .i64 0)))) .nil)) t56_7) t56_8)
def t56_9 := b56_9
theorem u56_9 : vcK P t56_9 k e w = vcK P b56_9 k e w := rfl
abbrev b56_10 : X := (.seq (.seq (.reg [0, 1, 10] (.c (.q 6 [] (.mv (.t 0))) (.c (.q 7 [] (.lens (.t 6))) (.c (.q 8 [] (.mv (.t 1))) (.c (.q 9 [] (.lens (.t 8))) (.c (.q 10 [] (.bin .neq (.t 7) (.t 9))) .nil)))))) t56_1) t56_9)
def t56_10 := b56_10
theorem u56_10 : vcK P t56_10 k e w = vcK P b56_10 k e w := rfl
abbrev b56_0 : X := (.seq (.reg [0, 1] (.c (.q 4 [] (.mv (.c (.bool false)))) .nil)) t56_10)
def x_leqLikedS := b56_0
theorem u56_0 : vcK P x_leqLikedS k e w = vcK P b56_0 k e w := rfl
def r_leqLikedS : List XO := [(.mv (.t 4))]
theorem c_leqLikedS : convF Try.prog [169, 170, 207, 208, 210, 227, 232, 233, 255, 259, 268, 269, 270, 280, 281, 296, 299, 306, 307, 309] Try.f56 [([0, 1], []), ([0, 1, 10], []), ([4], []), ([0, 1, 5], []), ([5], [0, 1]), ([0, 1, 5, 14], []), ([0, 1, 5, 26], []), ([4], []), ([0, 1, 5], []), ([4], [])] = some (x_leqLikedS, r_leqLikedS) := by kernel_rfl
def us_leqLikedS := aI @u56_0 (aI @u56_1 (aI @u56_2 (aI @u56_3 (aI @u56_4 (aI @u56_5 (aI @u56_6 (aI @u56_7 (aI @u56_8 (aI @u56_9 @u56_10)))))))))
end

/-- A pattern and its weight. -/
structure LK where
  pat : List UInt8
  wt : Int
deriving DecidableEq
def fK (x : LK) : List Value := [S x.pat, .int .i64 x.wt]
theorem fK_len (a : LK) : (fK a).length = 2 := rfl
theorem fK_one : ∀ a, ∀ u ∈ fK a, u.oneCell' = true := fun a u h => by simp only [fK, List.mem_cons, List.not_mem_nil, or_false] at h; rcases h with rfl | rfl <;> rfl
def szK (x : LK) (n : Int) : Int := if n - x.pat.length < 0 then -1 else n - x.pat.length
theorem fKg (x : LK) : (∀ v, (fK x).getD 0 v = S x.pat) ∧ (∀ v, (fK x).getD 1 v = .int .i64 x.wt) ∧ (fK x).length = 2 := ⟨fun _ => rfl, fun _ => rfl, rfl⟩
theorem lszLiked_ok (x : LK) (n : Int) (hn : -9223372036854775808 ≤ n - x.pat.length ∧ n ≤ 1048576) (w : World) : Fn 191 [.agg ⟨fK x⟩, .int .i64 n] w (fun v _ => v = .int .i64 (szK x n)) := by
  (refine callsV_of mix Try.func191 c_lszLiked ?_; simp only [↓vsd, vsn, gW, qd, qv, ev, pick, argE, zipE, ne_eq, eq_self, forall_const, implies_true, if_true, if_false, reduceIte, reduceCtorEq, Nat.reduceEqDiff, Nat.reduceAdd, Nat.reduceLT, ↓us_lszLiked, r_lszLiked])
  refine m_al ?_
  rintro b w1 hb hblk hx1 hs1
  simp only [↓vsd, vsn, gW, qd, qv, ev, pick, argE, zipE, ne_eq, eq_self, forall_const, implies_true, if_true, if_false, reduceIte, reduceCtorEq, Nat.reduceEqDiff, Nat.reduceAdd, Nat.reduceLT, ↓us_lszLiked, r_lszLiked, hblk.facts, fKg]
  exact ⟨inR_i64 (by omega), fun h => ⟨hx1, by rw [szK, if_pos h]⟩, fun h => ⟨hx1, by rw [szK, if_neg (by omega)]⟩⟩
theorem lszLikedS_ok (v : Value) (l : List LK) (hl : l.length ≤ 9223372036854775807) (hs : ∀ x ∈ l, x.pat.length ≤ 9223372036854775807) (w : World) (h : Sq fK 2 w v l) :
    Fn 49 [v, .int .i64 1048576] w (fun v _ => ∃ m : Int, v = .int .i64 m ∧ m ≤ 1048576 ∧ (0 ≤ m → l.length ≤ 1048576 ∧ ∀ x ∈ l, x.pat.length ≤ 1048576)) := by
  (refine callsV_of mix Try.func49 c_lszLikedS ?_; simp only [↓vsd, vsn, gW, qd, qv, ev, pick, argE, zipE, ne_eq, eq_self, forall_const, implies_true, if_true, if_false, reduceIte, reduceCtorEq, Nat.reduceEqDiff, Nat.reduceAdd, Nat.reduceLT, ↓us_lszLikedS, r_lszLikedS])
  simp only [↓vsd, vsn, gW, qd, qv, ev, pick, argE, zipE, ne_eq, eq_self, forall_const, implies_true, if_true, if_false, reduceIte, reduceCtorEq, Nat.reduceEqDiff, Nat.reduceAdd, Nat.reduceLT, ↓us_lszLikedS, r_lszLikedS, h.facts]
  refine ⟨inR_i64 (by omega), fun hlt => ⟨Ext.refl _, -1, rfl, by omega, fun h => by omega⟩, fun hge => ?_⟩
  refine m_upto l.length (fun k vs w' => ∃ m : Int, vs = [.int .i64 m, .int .i64 k] ∧ 0 ≤ m ∧ m ≤ 1048576 ∧ (∀ x ∈ l.take k, x.pat.length ≤ 1048576) ∧ Ext w w') ⟨_, rfl, by omega, by omega, by simp, Ext.refl _⟩ ?_
  rintro k vs w1 hk ⟨m, rfl, h0, h1, hall, hx⟩
  have hq := h.ext hx
  by_cases hlt : k < l.length
  · simp only [↓vsd, vsn, gW, qd, qv, ev, pick, argE, zipE, ne_eq, eq_self, forall_const, implies_true, if_true, if_false, reduceIte, reduceCtorEq, Nat.reduceEqDiff, Nat.reduceAdd, Nat.reduceLT, ↓us_lszLikedS, r_lszLikedS, hq.facts, hq.ata ⟨[], 0⟩ hlt]
    refine ⟨fun _ => ⟨by omega, ?_⟩, fun h => by omega⟩
    have hmem : l.getD k ⟨[], 0⟩ ∈ l := by rw [List.getD_eq_getElem?_getD, List.getElem?_eq_getElem hlt]; exact List.getElem_mem hlt
    have := hs _ hmem
    refine m_call (lszLiked_ok _ m (by omega) _) ?_
    rintro _ w2 hx2 rfl
    simp only [↓vsd, vsn, gW, qd, qv, ev, pick, argE, zipE, ne_eq, eq_self, forall_const, implies_true, if_true, if_false, reduceIte, reduceCtorEq, Nat.reduceEqDiff, Nat.reduceAdd, Nat.reduceLT, ↓us_lszLikedS, r_lszLikedS]
    unfold szK
    split
    · refine ⟨fun _ => ⟨hx.trans hx2, -1, rfl, by omega, fun h => by omega⟩, fun h => by omega⟩
    · refine ⟨fun _ => by omega, fun _ => ⟨inR_i64 (by omega), UpTo.next hlt ⟨_, rfl, by omega, by omega, fun x hx => ?_, hx.trans hx2⟩⟩⟩
      rw [List.take_add_one, List.getElem?_eq_getElem hlt] at hx
      rcases List.mem_append.1 hx with h | h
      · exact hall x h
      · rw [List.getD_eq_getElem?_getD, List.getElem?_eq_getElem hlt] at *
        simp only [Option.toList_some, List.mem_singleton, Option.getD_some] at *
        subst h
        omega
  · obtain rfl : k = l.length := by omega
    simp only [↓vsd, vsn, gW, qd, qv, ev, pick, argE, zipE, ne_eq, eq_self, forall_const, implies_true, if_true, if_false, reduceIte, reduceCtorEq, Nat.reduceEqDiff, Nat.reduceAdd, Nat.reduceLT, ↓us_lszLikedS, r_lszLikedS, hq.facts]
    exact ⟨fun h => by omega, fun _ => ⟨hx, m, rfl, h1, fun _ => ⟨by omega, by simpa using hall⟩⟩⟩
theorem ltoLiked_ok (x : LK) (w : World) : Fn 197 [.agg ⟨fK x⟩] w (fun v w' => v = .agg ⟨fK x⟩) := by
  (refine callsV_of mix Try.func197 c_ltoLiked ?_; simp only [↓vsd, vsn, gW, qd, qv, ev, pick, argE, zipE, ne_eq, eq_self, forall_const, implies_true, if_true, if_false, reduceIte, reduceCtorEq, Nat.reduceEqDiff, Nat.reduceAdd, Nat.reduceLT, ↓us_ltoLiked, r_ltoLiked])
  refine m_al ?_
  rintro b w1 hb hblk hx1 hs1
  simp only [↓vsd, vsn, gW, qd, qv, ev, pick, argE, zipE, ne_eq, eq_self, forall_const, implies_true, if_true, if_false, reduceIte, reduceCtorEq, Nat.reduceEqDiff, Nat.reduceAdd, Nat.reduceLT, ↓us_ltoLiked, r_ltoLiked, hblk.facts, fKg]
  refine m_al ?_
  rintro b2 w2 hb2 hblk2 hx2 hs2
  have h1 := (hblk.ext hx2)
  simp only [↓vsd, vsn, gW, qd, qv, ev, pick, argE, zipE, ne_eq, eq_self, forall_const, implies_true, if_true, if_false, reduceIte, reduceCtorEq, Nat.reduceEqDiff, Nat.reduceAdd, Nat.reduceLT, ↓us_ltoLiked, r_ltoLiked, h1.facts, fKg]
  refine m_al ?_
  rintro b3 w3 hb3 hblk3 hx3 hs3
  have h1 := (h1.ext hx3)
  simp only [↓vsd, vsn, gW, qd, qv, ev, pick, argE, zipE, ne_eq, eq_self, forall_const, implies_true, if_true, if_false, reduceIte, reduceCtorEq, Nat.reduceEqDiff, Nat.reduceAdd, Nat.reduceLT, ↓us_ltoLiked, r_ltoLiked, h1.facts, fKg]
  refine m_st hblk3 rfl (by simp) (fS_one _) ?_
  rintro w4 hblk4 hu4
  have h1 := hu4.blk h1 (by omega)
  simp only [↓vsd, vsn, gW, qd, qv, ev, pick, argE, zipE, ne_eq, eq_self, forall_const, implies_true, if_true, if_false, reduceIte, reduceCtorEq, Nat.reduceEqDiff, Nat.reduceAdd, Nat.reduceLT, ↓us_ltoLiked, r_ltoLiked, h1.facts, fKg]
  refine m_st hblk4 rfl (Nat.le_refl 2) (fI_one _) ?_
  rintro w5 hblk5 hu5
  have h5 : Blk w5 b3 (fK x) 151 := hblk5
  have hx : Ext w w5 := hu5.below (hu4.below ((hx1.trans hx2).trans hx3) (by omega)) (by omega)
  simp only [↓vsd, vsn, gW, qd, qv, ev, pick, argE, zipE, ne_eq, eq_self, forall_const, implies_true, if_true, if_false, reduceIte, reduceCtorEq, Nat.reduceEqDiff, Nat.reduceAdd, Nat.reduceLT, ↓us_ltoLiked, r_ltoLiked, h5.facts, fKg]
  refine m_st (hu5.blk (hu4.blk (hblk2.ext hx3) (by omega)) (by omega)) rfl (Nat.le_refl 2) (fK_one _) ?_
  rintro w6 hblk6 hu6
  have h6 : Blk w6 b2 (fK x) 151 := hblk6
  have hx : Ext w w6 := hu6.below hx (by omega)
  simp only [↓vsd, vsn, gW, qd, qv, ev, pick, argE, zipE, ne_eq, eq_self, forall_const, implies_true, if_true, if_false, reduceIte, reduceCtorEq, Nat.reduceEqDiff, Nat.reduceAdd, Nat.reduceLT, ↓us_ltoLiked, r_ltoLiked, h6.facts, fKg]
  exact hx
theorem fill_set {α : Type} (l : List α) (d : α) (k : Nat) (h : k < l.length) : (l.take k ++ List.replicate (l.length - k) d).set k (l.getD k d) = l.take (k + 1) ++ List.replicate (l.length - (k + 1)) d := by
  rw [List.set_append_right _ _ (by simp; omega), List.length_take, Nat.min_eq_left (by omega), Nat.sub_self, show l.length - k = (l.length - (k + 1)) + 1 by omega, List.replicate_succ, List.set_cons_zero, List.take_add_one, List.getElem?_eq_getElem h, List.getD_eq_getElem?_getD, List.getElem?_eq_getElem h]
  simp only [Option.toList_some, Option.getD_some, List.append_assoc, List.cons_append, List.nil_append]
theorem ne_at {α : Type} {l l' : List α} {d : α} (k : Nat) (h : ¬ l.getD k d = l'.getD k d) : ¬ l = l' := fun e => h (by rw [e])
theorem eq_take {α : Type} {l l' : List α} {d : α} {k : Nat} (h : l.take k = l'.take k) (h1 : k < l.length) (h2 : k < l'.length) (e : l.getD k d = l'.getD k d) : l.take (k + 1) = l'.take (k + 1) := by
  rw [List.getD_eq_getElem?_getD, List.getD_eq_getElem?_getD, List.getElem?_eq_getElem h1, List.getElem?_eq_getElem h2, Option.getD_some, Option.getD_some] at e
  rw [List.take_add_one, List.take_add_one, h, List.getElem?_eq_getElem h1, List.getElem?_eq_getElem h2, e]
theorem eq_len {α : Type} {l l' : List α} (h : l.take l.length = l'.take l.length) (e : l.length = l'.length) : l = l' := by
  rw [List.take_length, e, List.take_length] at h; exact h
theorem ltoLikedS_ok (v : Value) (l : List LK) (hl : l.length ≤ 1048576) (w : World) (h : Sq fK 2 w v l) : Fn 52 [v] w (fun v' w' => Own fK 2 151 w.heap.size w' v' l) := by
  (refine callsV_of mix Try.func52 c_ltoLikedS ?_; simp only [↓vsd, vsn, gW, qd, qv, ev, pick, argE, zipE, ne_eq, eq_self, forall_const, implies_true, if_true, if_false, reduceIte, reduceCtorEq, Nat.reduceEqDiff, Nat.reduceAdd, Nat.reduceLT, ↓us_ltoLikedS, r_ltoLikedS])
  simp only [↓vsd, vsn, gW, qd, qv, ev, pick, argE, zipE, ne_eq, eq_self, forall_const, implies_true, if_true, if_false, reduceIte, reduceCtorEq, Nat.reduceEqDiff, Nat.reduceAdd, Nat.reduceLT, ↓us_ltoLikedS, r_ltoLikedS, h.facts]
  refine m_msl (f := fK) (B := w.heap.size) ⟨[], 0⟩ fK_len rfl (by omega) (by decide) (Nat.le_refl _) ?_
  rintro vo w1 ho1 _ hx1
  simp only [↓vsd, vsn, gW, qd, qv, ev, pick, argE, zipE, ne_eq, eq_self, forall_const, implies_true, if_true, if_false, reduceIte, reduceCtorEq, Nat.reduceEqDiff, Nat.reduceAdd, Nat.reduceLT, ↓us_ltoLikedS, r_ltoLikedS]
  refine m_upto l.length (fun k vs w' => vs = [.int .i64 k] ∧ Own fK 2 151 w.heap.size w' vo (l.take k ++ List.replicate (l.length - k) ⟨[], 0⟩) ∧ Ext w w') ⟨rfl, by simpa using ho1, hx1⟩ ?_
  rintro k vs w2 hk ⟨rfl, ho2, hx2⟩
  have hq := h.ext hx2
  by_cases hlt : k < l.length
  · simp only [↓vsd, vsn, gW, qd, qv, ev, pick, argE, zipE, ne_eq, eq_self, forall_const, implies_true, if_true, if_false, reduceIte, reduceCtorEq, Nat.reduceEqDiff, Nat.reduceAdd, Nat.reduceLT, ↓us_ltoLikedS, r_ltoLikedS, hq.facts, hq.ata ⟨[], 0⟩ hlt]
    refine ⟨fun _ => ⟨by omega, m_call (ltoLiked_ok _ _) ?_⟩, fun h => by omega⟩
    rintro _ w3 hx3 rfl
    have ho3 := ho2.ext hx3
    simp only [↓vsd, vsn, gW, qd, qv, ev, pick, argE, zipE, ne_eq, eq_self, forall_const, implies_true, if_true, if_false, reduceIte, reduceCtorEq, Nat.reduceEqDiff, Nat.reduceAdd, Nat.reduceLT, ↓us_ltoLikedS, r_ltoLikedS, ho3.sq.facts]
    have hlen : (l.take k ++ List.replicate (l.length - k) (⟨[], 0⟩ : LK)).length = l.length := by simp; omega
    rw [hlen]
    refine ⟨by omega, m_set1 k (l.getD k ⟨[], 0⟩) ho3 rfl (by omega) rfl fK_one ?_⟩
    rintro w4 ho4 hg4 _
    simp only [↓vsd, vsn, gW, qd, qv, ev, pick, argE, zipE, ne_eq, eq_self, forall_const, implies_true, if_true, if_false, reduceIte, reduceCtorEq, Nat.reduceEqDiff, Nat.reduceAdd, Nat.reduceLT, ↓us_ltoLikedS, r_ltoLikedS]
    refine ⟨inR_i64 (by omega), UpTo.next hlt ⟨rfl, ho4.to ?_, ho3.grown (hx2.trans hx3) (Nat.le_refl _) hg4⟩⟩
    exact fill_set l ⟨[], 0⟩ k hlt
  · obtain rfl : k = l.length := by omega
    simp only [↓vsd, vsn, gW, qd, qv, ev, pick, argE, zipE, ne_eq, eq_self, forall_const, implies_true, if_true, if_false, reduceIte, reduceCtorEq, Nat.reduceEqDiff, Nat.reduceAdd, Nat.reduceLT, ↓us_ltoLikedS, r_ltoLikedS, hq.facts]
    exact ⟨fun h => by omega, fun _ => ⟨hx2, ho2.to (by simp)⟩⟩
theorem leqLiked_ok (x y : LK) (w : World) : Fn 200 [.agg ⟨fK x⟩, .agg ⟨fK y⟩] w (fun v _ => v = .bool (decide (x = y))) := by
  (refine callsV_of mix Try.func200 c_leqLiked ?_; simp only [↓vsd, vsn, gW, qd, qv, ev, pick, argE, zipE, ne_eq, eq_self, forall_const, implies_true, if_true, if_false, reduceIte, reduceCtorEq, Nat.reduceEqDiff, Nat.reduceAdd, Nat.reduceLT, ↓us_leqLiked, r_leqLiked])
  refine m_al ?_
  rintro b1 w1 hb1 hblk1 hx1 hs1
  simp only [↓vsd, vsn, gW, qd, qv, ev, pick, argE, zipE, ne_eq, eq_self, forall_const, implies_true, if_true, if_false, reduceIte, reduceCtorEq, Nat.reduceEqDiff, Nat.reduceAdd, Nat.reduceLT, ↓us_leqLiked, r_leqLiked]
  refine m_al ?_
  rintro b2 w2 hb2 hblk2 hx2 hs2
  have h1 := hblk1.ext hx2
  simp only [↓vsd, vsn, gW, qd, qv, ev, pick, argE, zipE, ne_eq, eq_self, forall_const, implies_true, if_true, if_false, reduceIte, reduceCtorEq, Nat.reduceEqDiff, Nat.reduceAdd, Nat.reduceLT, ↓us_leqLiked, r_leqLiked, h1.facts, hblk2.facts, fKg]
  have hx := hx1.trans hx2
  have e : (x = y) = (x.pat = y.pat ∧ x.wt = y.wt) := by cases x; cases y; simp
  simp only [e]
  exact ⟨fun h => ⟨hx, by simp [h]⟩, fun h => ⟨fun h' => ⟨hx, by simp [h']⟩, fun h' => ⟨hx, by simp [h, h']⟩⟩⟩
theorem leqLikedS_ok (v1 v2 : Value) (l1 l2 : List LK) (w : World) (h1 : Sq fK 2 w v1 l1) (h2 : Sq fK 2 w v2 l2) (hl : l1.length ≤ 1048576) : Fn 56 [v1, v2] w (fun v _ => v = .bool (decide (l1 = l2))) := by
  (refine callsV_of mix Try.func56 c_leqLikedS ?_; simp only [↓vsd, vsn, gW, qd, qv, ev, pick, argE, zipE, ne_eq, eq_self, forall_const, implies_true, if_true, if_false, reduceIte, reduceCtorEq, Nat.reduceEqDiff, Nat.reduceAdd, Nat.reduceLT, ↓us_leqLikedS, r_leqLikedS])
  simp only [↓vsd, vsn, gW, qd, qv, ev, pick, argE, zipE, ne_eq, eq_self, forall_const, implies_true, if_true, if_false, reduceIte, reduceCtorEq, Nat.reduceEqDiff, Nat.reduceAdd, Nat.reduceLT, ↓us_leqLikedS, r_leqLikedS, h1.facts, h2.facts]
  refine ⟨fun hne => ⟨Ext.refl _, ?_⟩, fun he => ?_⟩
  · have : ¬ l1 = l2 := fun e => hne (by rw [e])
    simp [this]
  refine m_upto l1.length (fun k vs w' => vs = [.int .i64 k] ∧ l1.take k = l2.take k ∧ Ext w w') ⟨rfl, rfl, Ext.refl _⟩ ?_
  rintro k vs w3 hk ⟨rfl, heq, hx⟩
  have g1 := h1.ext hx
  have g2 := h2.ext hx
  by_cases hlt : k < l1.length
  · have hlt2 : k < l2.length := by omega
    simp only [↓vsd, vsn, gW, qd, qv, ev, pick, argE, zipE, ne_eq, eq_self, forall_const, implies_true, if_true, if_false, reduceIte, reduceCtorEq, Nat.reduceEqDiff, Nat.reduceAdd, Nat.reduceLT, ↓us_leqLikedS, r_leqLikedS, g1.facts, g2.facts, g1.ata ⟨[], 0⟩ hlt, g2.ata ⟨[], 0⟩ hlt2]
    refine ⟨fun _ => ⟨by omega, by omega, m_call (leqLiked_ok _ _ _) ?_⟩, fun h => by omega⟩
    rintro _ w4 hx4 rfl
    simp only [↓vsd, vsn, gW, qd, qv, ev, pick, argE, zipE, ne_eq, eq_self, forall_const, implies_true, if_true, if_false, reduceIte, reduceCtorEq, Nat.reduceEqDiff, Nat.reduceAdd, Nat.reduceLT, ↓us_leqLikedS, r_leqLikedS]
    exact ⟨fun hne => ⟨hx.trans (ud hx4), by simp [ne_at k hne]⟩, fun he2 => ⟨inR_i64 (by omega), UpTo.next hlt ⟨rfl, eq_take heq hlt hlt2 he2, hx.trans (ud hx4)⟩⟩⟩
  · obtain rfl : k = l1.length := by omega
    simp only [↓vsd, vsn, gW, qd, qv, ev, pick, argE, zipE, ne_eq, eq_self, forall_const, implies_true, if_true, if_false, reduceIte, reduceCtorEq, Nat.reduceEqDiff, Nat.reduceAdd, Nat.reduceLT, ↓us_leqLikedS, r_leqLikedS, g1.facts]
    exact ⟨fun h => by omega, fun _ => ⟨hx, by simp [eq_len heq (by omega)]⟩⟩
def GoodK (x : LK) : Prop := IsPat x.pat ∧ -100 ≤ x.wt ∧ x.wt ≤ 100
instance (x : LK) : Decidable (GoodK x) := by unfold GoodK; infer_instance
def GoodKs (l : List LK) : Prop := (∀ x ∈ l, GoodK x) ∧ l.length ≤ 8
instance (l : List LK) : Decidable (GoodKs l) := by unfold GoodKs; infer_instance
theorem sl16Liked_ok (v : Value) (l : List LK) (hs : ∀ x ∈ l, x.pat.length ≤ 1048576) (hl : l.length ≤ 1048576) (w : World) (h : Sq fK 2 w v l) : Fn 192 [v] w (fun v _ => v = .bool (decide (GoodKs l))) := by
  (refine callsV_of mix Try.func192 c_sl16Liked ?_; simp only [↓vsd, vsn, gW, qd, qv, ev, pick, argE, zipE, ne_eq, eq_self, forall_const, implies_true, if_true, if_false, reduceIte, reduceCtorEq, Nat.reduceEqDiff, Nat.reduceAdd, Nat.reduceLT, ↓us_sl16Liked, r_sl16Liked])
  simp only [↓vsd, vsn, gW, qd, qv, ev, pick, argE, zipE, ne_eq, eq_self, forall_const, implies_true, if_true, if_false, reduceIte, reduceCtorEq, Nat.reduceEqDiff, Nat.reduceAdd, Nat.reduceLT, ↓us_sl16Liked, r_sl16Liked, h.facts]
  refine m_upto l.length (fun k vs w' => vs = [.int .i64 k] ∧ (∀ x ∈ l.take k, GoodK x) ∧ Ext w w') ⟨rfl, by simp, Ext.refl _⟩ ?_
  rintro k vs w1 hk ⟨rfl, hall, hx⟩
  have hq := h.ext hx
  by_cases hlt : k < l.length
  · have hmem : l.getD k ⟨[], 0⟩ ∈ l := by rw [List.getD_eq_getElem?_getD, List.getElem?_eq_getElem hlt]; exact List.getElem_mem hlt
    have hltI : (k : Int) < l.length := by omega
    have hltJ : ¬ (l.length : Int) ≤ k := by omega
    simp only [↓vsd, vsn, gW, qd, qv, ev, pick, argE, zipE, ne_eq, eq_self, forall_const, implies_true, if_true, if_false, reduceIte, reduceCtorEq, Nat.reduceEqDiff, Nat.reduceAdd, Nat.reduceLT, ↓us_sl16Liked, r_sl16Liked, hq.facts, hq.ata ⟨[], 0⟩ hlt, hltI, hltJ]
    refine ⟨by omega, m_al ?_⟩
    rintro b w2 hb hblk hx2 hs2
    simp only [↓vsd, vsn, gW, qd, qv, ev, pick, argE, zipE, ne_eq, eq_self, forall_const, implies_true, if_true, if_false, reduceIte, reduceCtorEq, Nat.reduceEqDiff, Nat.reduceAdd, Nat.reduceLT, ↓us_sl16Liked, r_sl16Liked]
    refine m_st hblk rfl (Nat.le_refl 2) (fK_one _) ?_
    rintro w3 hblk3 hu3
    have h3 : Blk w3 b (fK (l.getD k ⟨[], 0⟩)) 151 := hblk3
    have hx3 : Ext w w3 := hu3.below (hx.trans hx2) (by have := hx.size; omega)
    simp only [↓vsd, vsn, gW, qd, qv, ev, pick, argE, zipE, ne_eq, eq_self, forall_const, implies_true, if_true, if_false, reduceIte, reduceCtorEq, Nat.reduceEqDiff, Nat.reduceAdd, Nat.reduceLT, ↓us_sl16Liked, r_sl16Liked, h3.facts, fKg]
    refine m_call (sl16Good_ok _ (by have := hs _ hmem; omega) _) ?_
    rintro _ w4 hx4 rfl
    have h4 := h3.ext hx4
    simp only [↓vsd, vsn, gW, qd, qv, ev, pick, argE, zipE, ne_eq, eq_self, forall_const, implies_true, if_true, if_false, reduceIte, reduceCtorEq, Nat.reduceEqDiff, Nat.reduceAdd, Nat.reduceLT, ↓us_sl16Liked, r_sl16Liked, h4.facts, fKg]
    refine ⟨fun hp => m_call (sl1In_ok _ _ _ _) ?_, fun hp => ⟨hx3.trans hx4, ?_⟩⟩
    · rintro _ w5 hx5 rfl
      simp only [↓vsd, vsn, gW, qd, qv, ev, pick, argE, zipE, ne_eq, eq_self, forall_const, implies_true, if_true, if_false, reduceIte, reduceCtorEq, Nat.reduceEqDiff, Nat.reduceAdd, Nat.reduceLT, ↓us_sl16Liked, r_sl16Liked]
      refine ⟨fun hb => ⟨(hx3.trans hx4).trans hx5, ?_⟩, fun hg => ⟨inR_i64 (by omega), UpTo.next hlt ⟨rfl, fun x hx' => ?_, (hx3.trans hx4).trans hx5⟩⟩⟩
      · have : ¬ GoodKs l := fun hh => by
          obtain ⟨h1, h2, h3⟩ := hh.1 _ hmem
          rcases hb with h | h | h
          · exact h h1
          · omega
          · omega
        simp [this]
      · rw [List.take_add_one, List.getElem?_eq_getElem hlt] at hx'
        rcases List.mem_append.1 hx' with h | h
        · exact hall x h
        · rw [List.getD_eq_getElem?_getD, List.getElem?_eq_getElem hlt] at *
          simp only [Option.toList_some, List.mem_singleton, Option.getD_some] at *
          subst h
          exact ⟨hg.1, hg.2⟩
    · have : ¬ GoodKs l := fun hh => hp (hh.1 _ hmem).1
      simp [this]
  · obtain rfl : k = l.length := by omega
    have hltI : ¬ (l.length : Int) < l.length := by omega
    simp only [↓vsd, vsn, gW, qd, qv, ev, pick, argE, zipE, ne_eq, eq_self, forall_const, implies_true, if_true, if_false, reduceIte, reduceCtorEq, Nat.reduceEqDiff, Nat.reduceAdd, Nat.reduceLT, ↓us_sl16Liked, r_sl16Liked, hq.facts, hltI]
    refine ⟨hx, ?_⟩
    rw [List.take_length] at hall
    congr 1
    exact propext ⟨fun h => ⟨hall, by omega⟩, fun h => by have := h.2; omega⟩
theorem iGoodLiked_ok (v : Value) (l : List LK) (hs : ∀ x ∈ l, x.pat.length ≤ 1048576) (hl : l.length ≤ 1048576) (w : World) (h : Sq fK 2 w v l) : Fn 151 [v] w (fun v _ => v = .bool (decide (GoodKs l))) := by
  (refine callsV_of mix Try.func151 c_iGoodLiked ?_; simp only [↓vsd, vsn, gW, qd, qv, ev, pick, argE, zipE, ne_eq, eq_self, forall_const, implies_true, if_true, if_false, reduceIte, reduceCtorEq, Nat.reduceEqDiff, Nat.reduceAdd, Nat.reduceLT, ↓us_iGoodLiked, r_iGoodLiked])
  simp only [↓vsd, vsn, gW, qd, qv, ev, pick, argE, zipE, ne_eq, eq_self, forall_const, implies_true, if_true, if_false, reduceIte, reduceCtorEq, Nat.reduceEqDiff, Nat.reduceAdd, Nat.reduceLT, ↓us_iGoodLiked, r_iGoodLiked, h.facts]
  refine m_upto l.length (fun k vs w' => vs = [.int .i64 k] ∧ (∀ x ∈ l.take k, GoodK x) ∧ Ext w w') ⟨rfl, by simp, Ext.refl _⟩ ?_
  rintro k vs w1 hk ⟨rfl, hall, hx⟩
  have hq := h.ext hx
  by_cases hlt : k < l.length
  · have hmem : l.getD k ⟨[], 0⟩ ∈ l := by rw [List.getD_eq_getElem?_getD, List.getElem?_eq_getElem hlt]; exact List.getElem_mem hlt
    have hltI : (k : Int) < l.length := by omega
    have hltJ : ¬ (l.length : Int) ≤ k := by omega
    simp only [↓vsd, vsn, gW, qd, qv, ev, pick, argE, zipE, ne_eq, eq_self, forall_const, implies_true, if_true, if_false, reduceIte, reduceCtorEq, Nat.reduceEqDiff, Nat.reduceAdd, Nat.reduceLT, ↓us_iGoodLiked, r_iGoodLiked, hq.facts, hq.ata ⟨[], 0⟩ hlt, hltI, hltJ]
    refine ⟨by omega, m_al ?_⟩
    rintro b w2 hb hblk hx2 hs2
    simp only [↓vsd, vsn, gW, qd, qv, ev, pick, argE, zipE, ne_eq, eq_self, forall_const, implies_true, if_true, if_false, reduceIte, reduceCtorEq, Nat.reduceEqDiff, Nat.reduceAdd, Nat.reduceLT, ↓us_iGoodLiked, r_iGoodLiked]
    refine m_st hblk rfl (Nat.le_refl 2) (fK_one _) ?_
    rintro w3 hblk3 hu3
    have h3 : Blk w3 b (fK (l.getD k ⟨[], 0⟩)) 151 := hblk3
    have hx3 : Ext w w3 := hu3.below (hx.trans hx2) (by have := hx.size; omega)
    simp only [↓vsd, vsn, gW, qd, qv, ev, pick, argE, zipE, ne_eq, eq_self, forall_const, implies_true, if_true, if_false, reduceIte, reduceCtorEq, Nat.reduceEqDiff, Nat.reduceAdd, Nat.reduceLT, ↓us_iGoodLiked, r_iGoodLiked, h3.facts, fKg]
    refine m_call (iGoodPattern_ok _ (by have := hs _ hmem; omega) _) ?_
    rintro _ w4 hx4 rfl
    have h4 := h3.ext hx4
    simp only [↓vsd, vsn, gW, qd, qv, ev, pick, argE, zipE, ne_eq, eq_self, forall_const, implies_true, if_true, if_false, reduceIte, reduceCtorEq, Nat.reduceEqDiff, Nat.reduceAdd, Nat.reduceLT, ↓us_iGoodLiked, r_iGoodLiked, h4.facts, fKg]
    refine ⟨fun hp => m_call (iwithin_ok _ _ _ _) ?_, fun hp => ⟨hx3.trans hx4, ?_⟩⟩
    · rintro _ w5 hx5 rfl
      simp only [↓vsd, vsn, gW, qd, qv, ev, pick, argE, zipE, ne_eq, eq_self, forall_const, implies_true, if_true, if_false, reduceIte, reduceCtorEq, Nat.reduceEqDiff, Nat.reduceAdd, Nat.reduceLT, ↓us_iGoodLiked, r_iGoodLiked]
      refine ⟨fun hb => ⟨(hx3.trans hx4).trans hx5, ?_⟩, fun hg => ⟨inR_i64 (by omega), UpTo.next hlt ⟨rfl, fun x hx' => ?_, (hx3.trans hx4).trans hx5⟩⟩⟩
      · have : ¬ GoodKs l := fun hh => by
          obtain ⟨h1, h2, h3⟩ := hh.1 _ hmem
          rcases hb with h | h | h
          · exact h h1
          · omega
          · omega
        simp [this]
      · rw [List.take_add_one, List.getElem?_eq_getElem hlt] at hx'
        rcases List.mem_append.1 hx' with h | h
        · exact hall x h
        · rw [List.getD_eq_getElem?_getD, List.getElem?_eq_getElem hlt] at *
          simp only [Option.toList_some, List.mem_singleton, Option.getD_some] at *
          subst h
          exact ⟨hg.1, hg.2⟩
    · have : ¬ GoodKs l := fun hh => hp (hh.1 _ hmem).1
      simp [this]
  · obtain rfl : k = l.length := by omega
    have hltI : ¬ (l.length : Int) < l.length := by omega
    simp only [↓vsd, vsn, gW, qd, qv, ev, pick, argE, zipE, ne_eq, eq_self, forall_const, implies_true, if_true, if_false, reduceIte, reduceCtorEq, Nat.reduceEqDiff, Nat.reduceAdd, Nat.reduceLT, ↓us_iGoodLiked, r_iGoodLiked, hq.facts, hltI]
    refine ⟨hx, ?_⟩
    rw [List.take_length] at hall
    congr 1
    exact propext ⟨fun h => ⟨hall, by omega⟩, fun h => by have := h.2; omega⟩
theorem sGoodLiked_ok (v : Value) (l : List LK) (hs : ∀ x ∈ l, x.pat.length ≤ 1048576) (hl : l.length ≤ 1048576) (w : World) (h : Sq fK 2 w v l) : Fn 152 [v] w (fun v _ => v = .bool (decide (GoodKs l))) := by
  (refine callsV_of mix Try.func152 c_sGoodLiked ?_; simp only [↓vsd, vsn, gW, qd, qv, ev, pick, argE, zipE, ne_eq, eq_self, forall_const, implies_true, if_true, if_false, reduceIte, reduceCtorEq, Nat.reduceEqDiff, Nat.reduceAdd, Nat.reduceLT, ↓us_sGoodLiked, r_sGoodLiked])
  refine m_call (sl16Liked_ok v l hs hl _ h) ?_
  rintro _ w1 hx rfl
  simp only [↓vsd, vsn, gW, qd, qv, ev, pick, argE, zipE, ne_eq, eq_self, forall_const, implies_true, if_true, if_false, reduceIte, reduceCtorEq, Nat.reduceEqDiff, Nat.reduceAdd, Nat.reduceLT, ↓us_sGoodLiked, r_sGoodLiked]
  exact hx
end Go.Proofs.Ytpnopboffalfnaa
