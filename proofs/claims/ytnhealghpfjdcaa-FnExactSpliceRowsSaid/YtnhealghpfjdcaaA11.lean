/-
  Methods: what a good one is, its lead's rows, its lead head.
  Conditions: none.
-/
import Derived.Test.YtnhealghpfjdcaaA10
set_option linter.unusedSimpArgs false
set_option linter.unusedVariables false
set_option linter.defProp false
namespace Go.Proofs.Ytnhealghpfjdcaa
open Go Go.RowKit
section
variable (P : Program) (k : KT) (e : Env) (w : World)
abbrev b153_1 : X := (.cond (.t 18) (.seq (.reg [2] (.c (.q 2 [] (.mv (.c (.bool false)))) .nil)) .ret) .skip)
def t153_1 := b153_1
theorem u153_1 : vcK P t153_1 k e w = vcK P b153_1 k e w := rfl
abbrev b153_2 : X := (.seq (.reg [0, 5, 6, 18] (.c (.q 9 [] (.mv (.t 0))) (.c (.q 10 [] (.mv (.t 3))) (.c (.q 11 [] (.idx (.t 9) (.t 10))) (.c (.q 12 [] (.bin .lss (.t 11) (.c (.int .u8 97)))) (.c (.q 13 [] (.mv (.t 12))) (.c (.q 14 [(13, false)] (.mv (.t 0))) (.c (.q 15 [(13, false)] (.mv (.t 3))) (.c (.q 16 [(13, false)] (.idx (.t 14) (.t 15))) (.c (.q 17 [(13, false)] (.bin .gtr (.t 16) (.c (.int .u8 122)))) (.c (.q 18 [] (.pick (.t 13) (.c (.bool true)) (.t 17))) .nil))))))))))) t153_1)
def t153_2 := b153_2
theorem u153_2 : vcK P t153_2 k e w = vcK P b153_2 k e w := rfl
abbrev b153_3 : X := (.reg [0, 5, 6] (.c (.q 19 [] (.bin .add (.t 6) (.c (.int .i64 1)))) (.c (.q 6 [] (.mv (.t 19))) .nil)))
def t153_3 := b153_3
theorem u153_3 : vcK P t153_3 k e w = vcK P b153_3 k e w := rfl
abbrev b153_4 : X := (.seq (.blk 1 (.seq (.reg [0, 3, 5, 6] (.c (.q 8 [] (.mv (.t 6))) (.c (.q 3 [] (.mv (.t 8))) .nil))) t153_2)) t153_3)
def t153_4 := b153_4
theorem u153_4 : vcK P t153_4 k e w = vcK P b153_4 k e w := rfl
abbrev b153_5 : X := (.seq (.cond (.t 7) .skip (.exit 0)) t153_4)
def t153_5 := b153_5
theorem u153_5 : vcK P t153_5 k e w = vcK P b153_5 k e w := rfl
abbrev b153_6 : X := (.seq (.reg [0, 5, 6, 7] (.c (.q 7 [] (.bin .lss (.t 6) (.t 5))) .nil)) t153_5)
def t153_6 := b153_6
theorem u153_6 : vcK P t153_6 k e w = vcK P b153_6 k e w := rfl
abbrev b153_7 : X := (.blk 0 (.loop [6] [0, 5] t153_6))
def t153_7 := b153_7
theorem u153_7 : vcK P t153_7 k e w = vcK P b153_7 k e w := rfl
abbrev b153_8 : X := (.seq (.reg [2] (.c (.q 20 [] (.mv (.t 0))) (.c (.q 21 [] (.len (.t 20))) (.c (.q 22 [] (.bin .geq (.t 21) (.c (.int .i64 1)))) (.c (.q 23 [] (.mv (.t 22))) (.c (.q 24 [(23, true)] (.mv (.t 0))) (.c (.q 25 [(23, true)] (.len (.t 24))) (.c (.q 26 [(23, true)] (.bin .leq (.t 25) (.c (.int .i64 10)))) (.c (.q 27 [] (.pick (.t 23) (.t 26) (.c (.bool false)))) (.c (.q 2 [] (.mv (.t 27))) .nil)))))))))) .ret)
def t153_8 := b153_8
theorem u153_8 : vcK P t153_8 k e w = vcK P b153_8 k e w := rfl
abbrev b153_9 : X := (.seq (.seq (.reg [0, 5, 6] (.c (.q 4 [] (.mv (.t 0))) (.c (.q 5 [] (.len (.t 4))) (.c (.q 6 [] (.mv (.c (.int .i64 0)))) .nil)))) t153_7) t153_8)
def t153_9 := b153_9
theorem u153_9 : vcK P t153_9 k e w = vcK P b153_9 k e w := rfl
abbrev b153_0 : X := (.seq (.reg [0] (.c (.q 2 [] (.mv (.c (.bool false)))) .nil)) t153_9)
def x_iisWord := b153_0
theorem u153_0 : vcK P x_iisWord k e w = vcK P b153_0 k e w := rfl
def r_iisWord : List XO := [(.mv (.t 2))]
theorem c_iisWord : convF Try.prog [89, 116, 117, 121, 143, 161, 162, 163, 166, 168, 234] Try.f153 [([0], []), ([0, 5, 6], []), ([6], [0, 5]), ([0, 5, 6, 7], []), ([0, 3, 5, 6], []), ([0, 5, 6, 18], []), ([2], []), ([0, 5, 6], []), ([2], [])] = some (x_iisWord, r_iisWord) := by kernel_rfl
def us_iisWord := aI @u153_0 (aI @u153_1 (aI @u153_2 (aI @u153_3 (aI @u153_4 (aI @u153_5 (aI @u153_6 (aI @u153_7 (aI @u153_8 @u153_9))))))))
abbrev b158_1 : X := (.cond (.t 7) .skip (.exit 0))
def t158_1 := b158_1
theorem u158_1 : vcK P t158_1 k e w = vcK P b158_1 k e w := rfl
abbrev b158_2 : X := (.cond (.t 19) (.seq (.reg [2] (.c (.q 2 [] (.mv (.c (.bool false)))) .nil)) .ret) .skip)
def t158_2 := b158_2
theorem u158_2 : vcK P t158_2 k e w = vcK P b158_2 k e w := rfl
abbrev b158_3 : X := (.reg [0, 3] (.c (.q 8 [] (.mv (.t 3))) (.c (.q 9 [] (.bin .add (.t 8) (.c (.int .i64 1)))) (.c (.q 3 [] (.mv (.t 9))) .nil))))
def t158_3 := b158_3
theorem u158_3 : vcK P t158_3 k e w = vcK P b158_3 k e w := rfl
abbrev b158_4 : X := (.seq (.blk 1 (.seq (.reg [0, 3, 19] (.c (.q 10 [] (.mv (.t 0))) (.c (.q 11 [] (.mv (.t 3))) (.c (.q 12 [] (.idx (.t 10) (.t 11))) (.c (.q 13 [] (.bin .lss (.t 12) (.c (.int .u8 97)))) (.c (.q 14 [] (.mv (.t 13))) (.c (.q 15 [(14, false)] (.mv (.t 0))) (.c (.q 16 [(14, false)] (.mv (.t 3))) (.c (.q 17 [(14, false)] (.idx (.t 15) (.t 16))) (.c (.q 18 [(14, false)] (.bin .gtr (.t 17) (.c (.int .u8 122)))) (.c (.q 19 [] (.pick (.t 14) (.c (.bool true)) (.t 18))) .nil))))))))))) t158_2)) t158_3)
def t158_4 := b158_4
theorem u158_4 : vcK P t158_4 k e w = vcK P b158_4 k e w := rfl
abbrev b158_5 : X := (.seq (.seq (.reg [0, 3, 7] (.c (.q 4 [] (.mv (.t 3))) (.c (.q 5 [] (.mv (.t 0))) (.c (.q 6 [] (.len (.t 5))) (.c (.q 7 [] (.bin .lss (.t 4) (.t 6))) .nil))))) t158_1) t158_4)
def t158_5 := b158_5
theorem u158_5 : vcK P t158_5 k e w = vcK P b158_5 k e w := rfl
abbrev b158_6 : X := (.blk 0 (.loop [3] [0] t158_5))
def t158_6 := b158_6
theorem u158_6 : vcK P t158_6 k e w = vcK P b158_6 k e w := rfl
abbrev b158_7 : X := (.seq (.reg [2] (.c (.q 20 [] (.mv (.t 0))) (.c (.q 21 [] (.len (.t 20))) (.c (.e (some 22) [] (.call false 118 [(.t 21), (.c (.int .i64 1)), (.c (.int .i64 10))])) (.c (.q 2 [] (.mv (.t 22))) .nil))))) .ret)
def t158_7 := b158_7
theorem u158_7 : vcK P t158_7 k e w = vcK P b158_7 k e w := rfl
abbrev b158_8 : X := (.seq (.seq (.reg [0, 3] (.c (.q 3 [] (.mv (.c (.int .i64 0)))) .nil)) t158_6) t158_7)
def t158_8 := b158_8
theorem u158_8 : vcK P t158_8 k e w = vcK P b158_8 k e w := rfl
abbrev b158_0 : X := (.seq (.reg [0] (.c (.q 2 [] (.mv (.c (.bool false)))) .nil)) t158_8)
def x_sl4Name := b158_0
theorem u158_0 : vcK P x_sl4Name k e w = vcK P b158_0 k e w := rfl
def r_sl4Name : List XO := [(.mv (.t 2))]
theorem c_sl4Name : convF Try.prog [89, 116, 117, 121, 143, 161, 162, 163, 166, 168, 234] Try.f158 [([0], []), ([0, 3], []), ([3], [0]), ([0, 3, 7], []), ([0, 3, 19], []), ([2], []), ([0, 3], []), ([2], [])] = some (x_sl4Name, r_sl4Name) := by kernel_rfl
def us_sl4Name := aI @u158_0 (aI @u158_1 (aI @u158_2 (aI @u158_3 (aI @u158_4 (aI @u158_5 (aI @u158_6 (aI @u158_7 @u158_8)))))))
abbrev b154_1 : X := (.cond (.t 14) (.seq (.reg [4] (.c (.q 4 [] (.mv (.c (.bool false)))) .nil)) .ret) .skip)
def t154_1 := b154_1
theorem u154_1 : vcK P t154_1 k e w = vcK P b154_1 k e w := rfl
abbrev b154_2 : X := (.cond (.t 24) (.seq (.reg [4] (.c (.q 4 [] (.mv (.c (.bool false)))) .nil)) .ret) .skip)
def t154_2 := b154_2
theorem u154_2 : vcK P t154_2 k e w = vcK P b154_2 k e w := rfl
abbrev b154_3 : X := (.seq (.reg [0, 15, 16, 17, 24] (.c (.q 21 [] (.mv (.t 0))) (.c (.q 22 [] (.mv (.t 6))) (.c (.e (some 23) [] (.call false 172 [(.t 21), (.t 22)])) (.c (.q 24 [] (.not (.t 23))) .nil))))) t154_2)
def t154_3 := b154_3
theorem u154_3 : vcK P t154_3 k e w = vcK P b154_3 k e w := rfl
abbrev b154_4 : X := (.reg [0, 15, 16, 17] (.c (.q 25 [] (.bin .add (.t 17) (.c (.int .i64 1)))) (.c (.q 17 [] (.mv (.t 25))) .nil)))
def t154_4 := b154_4
theorem u154_4 : vcK P t154_4 k e w = vcK P b154_4 k e w := rfl
abbrev b154_5 : X := (.seq (.blk 1 (.seq (.reg [0, 6, 15, 16, 17] (.c (.q 19 [] (.ia 1 (.t 15) (.t 17))) (.c (.q 20 [] (.ld (.t 19))) (.c (.q 6 [] (.mv (.t 20))) .nil)))) t154_3)) t154_4)
def t154_5 := b154_5
theorem u154_5 : vcK P t154_5 k e w = vcK P b154_5 k e w := rfl
abbrev b154_6 : X := (.seq (.cond (.t 18) .skip (.exit 0)) t154_5)
def t154_6 := b154_6
theorem u154_6 : vcK P t154_6 k e w = vcK P b154_6 k e w := rfl
abbrev b154_7 : X := (.seq (.reg [0, 15, 16, 17, 18] (.c (.q 18 [] (.bin .lss (.t 17) (.t 16))) .nil)) t154_6)
def t154_7 := b154_7
theorem u154_7 : vcK P t154_7 k e w = vcK P b154_7 k e w := rfl
abbrev b154_8 : X := (.blk 0 (.loop [17] [0, 15, 16] t154_7))
def t154_8 := b154_8
theorem u154_8 : vcK P t154_8 k e w = vcK P b154_8 k e w := rfl
abbrev b154_9 : X := (.seq (.reg [4] (.c (.q 4 [] (.mv (.c (.bool true)))) .nil)) .ret)
def t154_9 := b154_9
theorem u154_9 : vcK P t154_9 k e w = vcK P b154_9 k e w := rfl
abbrev b154_10 : X := (.seq (.seq (.reg [0, 15, 16, 17] (.c (.q 15 [] (.mv (.t 1))) (.c (.q 16 [] (.lens (.t 15))) (.c (.q 17 [] (.mv (.c (.int .i64 0)))) .nil)))) t154_8) t154_9)
def t154_10 := b154_10
theorem u154_10 : vcK P t154_10 k e w = vcK P b154_10 k e w := rfl
abbrev b154_11 : X := (.seq (.seq (.reg [0, 1, 14] (.c (.q 7 [] (.mv (.t 1))) (.c (.q 8 [] (.lens (.t 7))) (.c (.q 9 [] (.bin .lss (.t 8) (.c (.int .i64 1)))) (.c (.q 10 [] (.mv (.t 9))) (.c (.q 11 [(10, false)] (.mv (.t 1))) (.c (.q 12 [(10, false)] (.lens (.t 11))) (.c (.q 13 [(10, false)] (.bin .gtr (.t 12) (.c (.int .i64 40)))) (.c (.q 14 [] (.pick (.t 10) (.c (.bool true)) (.t 13))) .nil))))))))) t154_1) t154_10)
def t154_11 := b154_11
theorem u154_11 : vcK P t154_11 k e w = vcK P b154_11 k e w := rfl
abbrev b154_0 : X := (.seq (.reg [0, 1] (.c (.q 4 [] (.mv (.c (.bool false)))) .nil)) t154_11)
def x_iareChanges := b154_0
theorem u154_0 : vcK P x_iareChanges k e w = vcK P b154_0 k e w := rfl
def r_iareChanges : List XO := [(.mv (.t 4))]
theorem c_iareChanges : convF Try.prog [89, 116, 117, 121, 143, 161, 162, 163, 166, 168, 234] Try.f154 [([0, 1], []), ([0, 1, 14], []), ([4], []), ([0, 15, 16, 17], []), ([17], [0, 15, 16]), ([0, 15, 16, 17, 18], []), ([0, 6, 15, 16, 17], []), ([0, 15, 16, 17, 24], []), ([4], []), ([0, 15, 16, 17], []), ([4], [])] = some (x_iareChanges, r_iareChanges) := by kernel_rfl
def us_iareChanges := aI @u154_0 (aI @u154_1 (aI @u154_2 (aI @u154_3 (aI @u154_4 (aI @u154_5 (aI @u154_6 (aI @u154_7 (aI @u154_8 (aI @u154_9 (aI @u154_10 @u154_11))))))))))
abbrev b104_1 : X := (.seq (.reg [2] (.c (.q 3 [] (.fa 0 (.t 1))) (.c (.q 4 [] (.ld (.t 3))) (.c (.e (some 5) [] (.call false 153 [(.t 4)])) (.c (.q 6 [] (.mv (.t 5))) (.c (.q 7 [(6, true)] (.fa 1 (.t 1))) (.c (.q 8 [(6, true)] (.ld (.t 7))) (.c (.q 9 [(6, true)] (.fa 2 (.t 1))) (.c (.q 10 [(6, true)] (.ld (.t 9))) (.c (.e (some 11) [(6, true)] (.call false 154 [(.t 8), (.t 10)])) (.c (.q 12 [] (.pick (.t 6) (.t 11) (.c (.bool false)))) (.c (.q 2 [] (.mv (.t 12))) .nil)))))))))))) .ret)
def t104_1 := b104_1
theorem u104_1 : vcK P t104_1 k e w = vcK P b104_1 k e w := rfl
abbrev b104_0 : X := (.seq (.reg [1] (.c (.e (some 1) [] (.box 31 (.t 0))) (.c (.q 2 [] (.mv (.c (.bool false)))) .nil))) t104_1)
def x_iGoodMethod := b104_0
theorem u104_0 : vcK P x_iGoodMethod k e w = vcK P b104_0 k e w := rfl
def r_iGoodMethod : List XO := [(.mv (.t 2))]
theorem c_iGoodMethod : convF Try.prog [89, 116, 117, 121, 143, 161, 162, 163, 166, 168, 234] Try.f104 [([1], []), ([2], [])] = some (x_iGoodMethod, r_iGoodMethod) := by kernel_rfl
def us_iGoodMethod := aI @u104_0 @u104_1
abbrev b106_1 : X := (.cond (.t 16) (.seq (.reg [2] (.c (.q 2 [] (.mv (.c (.bool false)))) .nil)) .ret) .skip)
def t106_1 := b106_1
theorem u106_1 : vcK P t106_1 k e w = vcK P b106_1 k e w := rfl
abbrev b106_2 : X := (.seq (.reg [1, 6, 7, 8, 16] (.c (.q 12 [] (.fa 1 (.t 1))) (.c (.q 13 [] (.ld (.t 12))) (.c (.q 14 [] (.mv (.t 4))) (.c (.e (some 15) [] (.call false 157 [(.t 13), (.t 14)])) (.c (.q 16 [] (.not (.t 15))) .nil)))))) t106_1)
def t106_2 := b106_2
theorem u106_2 : vcK P t106_2 k e w = vcK P b106_2 k e w := rfl
abbrev b106_3 : X := (.reg [1, 6, 7, 8] (.c (.q 17 [] (.bin .add (.t 8) (.c (.int .i64 1)))) (.c (.q 8 [] (.mv (.t 17))) .nil)))
def t106_3 := b106_3
theorem u106_3 : vcK P t106_3 k e w = vcK P b106_3 k e w := rfl
abbrev b106_4 : X := (.seq (.blk 1 (.seq (.reg [1, 4, 6, 7, 8] (.c (.q 10 [] (.ia 1 (.t 6) (.t 8))) (.c (.q 11 [] (.ld (.t 10))) (.c (.q 4 [] (.mv (.t 11))) .nil)))) t106_2)) t106_3)
def t106_4 := b106_4
theorem u106_4 : vcK P t106_4 k e w = vcK P b106_4 k e w := rfl
abbrev b106_5 : X := (.seq (.cond (.t 9) .skip (.exit 0)) t106_4)
def t106_5 := b106_5
theorem u106_5 : vcK P t106_5 k e w = vcK P b106_5 k e w := rfl
abbrev b106_6 : X := (.seq (.reg [1, 6, 7, 8, 9] (.c (.q 9 [] (.bin .lss (.t 8) (.t 7))) .nil)) t106_5)
def t106_6 := b106_6
theorem u106_6 : vcK P t106_6 k e w = vcK P b106_6 k e w := rfl
abbrev b106_7 : X := (.blk 0 (.loop [8] [1, 6, 7] t106_6))
def t106_7 := b106_7
theorem u106_7 : vcK P t106_7 k e w = vcK P b106_7 k e w := rfl
abbrev b106_8 : X := (.seq (.reg [2] (.c (.q 18 [] (.fa 0 (.t 1))) (.c (.q 19 [] (.ld (.t 18))) (.c (.e (some 20) [] (.call false 158 [(.t 19)])) (.c (.q 21 [] (.mv (.t 20))) (.c (.q 22 [(21, true)] (.fa 1 (.t 1))) (.c (.q 23 [(21, true)] (.ld (.t 22))) (.c (.e (some 24) [(21, true)] (.call false 118 [(.t 23), (.c (.int .i64 3)), (.c (.int .i64 8))])) (.c (.q 25 [] (.pick (.t 21) (.t 24) (.c (.bool false)))) (.c (.q 26 [] (.mv (.t 25))) (.c (.q 27 [(26, true)] (.fa 2 (.t 1))) (.c (.q 28 [(26, true)] (.ld (.t 27))) (.c (.q 29 [(26, true)] (.lens (.t 28))) (.c (.e (some 30) [(26, true)] (.call false 118 [(.t 29), (.c (.int .i64 1)), (.c (.int .i64 40))])) (.c (.q 31 [] (.pick (.t 26) (.t 30) (.c (.bool false)))) (.c (.q 2 [] (.mv (.t 31))) .nil)))))))))))))))) .ret)
def t106_8 := b106_8
theorem u106_8 : vcK P t106_8 k e w = vcK P b106_8 k e w := rfl
abbrev b106_9 : X := (.seq (.seq (.reg [1, 6, 7, 8] (.c (.q 5 [] (.fa 2 (.t 1))) (.c (.q 6 [] (.ld (.t 5))) (.c (.q 7 [] (.lens (.t 6))) (.c (.q 8 [] (.mv (.c (.int .i64 0)))) .nil))))) t106_7) t106_8)
def t106_9 := b106_9
theorem u106_9 : vcK P t106_9 k e w = vcK P b106_9 k e w := rfl
abbrev b106_0 : X := (.seq (.reg [1] (.c (.e (some 1) [] (.box 31 (.t 0))) (.c (.q 2 [] (.mv (.c (.bool false)))) .nil))) t106_9)
def x_sl4Good := b106_0
theorem u106_0 : vcK P x_sl4Good k e w = vcK P b106_0 k e w := rfl
def r_sl4Good : List XO := [(.mv (.t 2))]
theorem c_sl4Good : convF Try.prog [89, 116, 117, 121, 143, 161, 162, 163, 166, 168, 234] Try.f106 [([1], []), ([1, 6, 7, 8], []), ([8], [1, 6, 7]), ([1, 6, 7, 8, 9], []), ([1, 4, 6, 7, 8], []), ([1, 6, 7, 8, 16], []), ([2], []), ([1, 6, 7, 8], []), ([2], [])] = some (x_sl4Good, r_sl4Good) := by kernel_rfl
def us_sl4Good := aI @u106_0 (aI @u106_1 (aI @u106_2 (aI @u106_3 (aI @u106_4 (aI @u106_5 (aI @u106_6 (aI @u106_7 (aI @u106_8 @u106_9))))))))
abbrev b155_1 : X := (.reg [0, 5, 10, 11, 12] (.c (.q 19 [] (.mv (.t 5))) (.c (.q 20 [] (.mv (.t 0))) (.c (.e (some 21) [] (.bsl 9 1 [(.t 20)])) (.c (.e (some 22) [] (.app 22 9 1 16 [(S [])] 22 (.t 19) (.t 21))) (.c (.q 5 [] (.mv (.t 22))) .nil))))))
def t155_1 := b155_1
theorem u155_1 : vcK P t155_1 k e w = vcK P b155_1 k e w := rfl
abbrev b155_2 : X := (.seq (.reg [0, 5, 10, 11, 12] (.c (.q 16 [] (.mv (.t 0))) (.c (.q 17 [] (.mv (.t 7))) (.c (.e (some 18) [] (.call false 187 [(.t 16), (.t 17)])) (.c (.q 0 [] (.mv (.t 18))) .nil))))) t155_1)
def t155_2 := b155_2
theorem u155_2 : vcK P t155_2 k e w = vcK P b155_2 k e w := rfl
abbrev b155_3 : X := (.reg [0, 5, 10, 11, 12] (.c (.q 23 [] (.bin .add (.t 12) (.c (.int .i64 1)))) (.c (.q 12 [] (.mv (.t 23))) .nil)))
def t155_3 := b155_3
theorem u155_3 : vcK P t155_3 k e w = vcK P b155_3 k e w := rfl
abbrev b155_4 : X := (.seq (.blk 1 (.seq (.reg [0, 5, 7, 10, 11, 12] (.c (.q 14 [] (.ia 1 (.t 10) (.t 12))) (.c (.q 15 [] (.ld (.t 14))) (.c (.q 7 [] (.mv (.t 15))) .nil)))) t155_2)) t155_3)
def t155_4 := b155_4
theorem u155_4 : vcK P t155_4 k e w = vcK P b155_4 k e w := rfl
abbrev b155_5 : X := (.seq (.cond (.t 13) .skip (.exit 0)) t155_4)
def t155_5 := b155_5
theorem u155_5 : vcK P t155_5 k e w = vcK P b155_5 k e w := rfl
abbrev b155_6 : X := (.seq (.reg [0, 5, 10, 11, 12, 13] (.c (.q 13 [] (.bin .lss (.t 12) (.t 11))) .nil)) t155_5)
def t155_6 := b155_6
theorem u155_6 : vcK P t155_6 k e w = vcK P b155_6 k e w := rfl
abbrev b155_7 : X := (.blk 0 (.loop [0, 5, 12] [10, 11] t155_6))
def t155_7 := b155_7
theorem u155_7 : vcK P t155_7 k e w = vcK P b155_7 k e w := rfl
abbrev b155_8 : X := (.seq (.reg [4] (.c (.q 24 [] (.mv (.t 5))) (.c (.q 4 [] (.mv (.t 24))) .nil))) .ret)
def t155_8 := b155_8
theorem u155_8 : vcK P t155_8 k e w = vcK P b155_8 k e w := rfl
abbrev b155_9 : X := (.seq (.seq (.reg [0, 5, 10, 11, 12] (.c (.q 10 [] (.mv (.t 1))) (.c (.q 11 [] (.lens (.t 10))) (.c (.q 12 [] (.mv (.c (.int .i64 0)))) .nil)))) t155_7) t155_8)
def t155_9 := b155_9
theorem u155_9 : vcK P t155_9 k e w = vcK P b155_9 k e w := rfl
abbrev b155_10 : X := (.seq (.reg [0, 1, 5] (.c (.q 8 [] (.mv (.t 0))) (.c (.e (some 9) [] (.bsl 9 1 [(.t 8)])) (.c (.q 5 [] (.mv (.t 9))) .nil)))) t155_9)
def t155_10 := b155_10
theorem u155_10 : vcK P t155_10 k e w = vcK P b155_10 k e w := rfl
abbrev b155_0 : X := (.seq (.reg [0, 1] (.c (.q 4 [] (.mv (.c (.slice none 0 0)))) .nil)) t155_10)
def x_irowsUnder := b155_0
theorem u155_0 : vcK P x_irowsUnder k e w = vcK P b155_0 k e w := rfl
def r_irowsUnder : List XO := [(.mv (.t 4))]
theorem c_irowsUnder : convF Try.prog [89, 116, 117, 121, 143, 161, 162, 163, 166, 168, 234] Try.f155 [([0, 1], []), ([0, 1, 5], []), ([0, 5, 10, 11, 12], []), ([0, 5, 12], [10, 11]), ([0, 5, 10, 11, 12, 13], []), ([0, 5, 7, 10, 11, 12], []), ([0, 5, 10, 11, 12], []), ([0, 5, 10, 11, 12], []), ([0, 5, 10, 11, 12], []), ([4], [])] = some (x_irowsUnder, r_irowsUnder) := by kernel_rfl
def us_irowsUnder := aI @u155_0 (aI @u155_1 (aI @u155_2 (aI @u155_3 (aI @u155_4 (aI @u155_5 (aI @u155_6 (aI @u155_7 (aI @u155_8 (aI @u155_9 @u155_10)))))))))
abbrev b115_1 : X := (.seq (.reg [2] (.c (.q 10 [] (.mv (.t 3))) (.c (.q 11 [] (.mv (.t 3))) (.c (.q 12 [] (.lens (.t 11))) (.c (.q 13 [] (.bin .sub (.t 12) (.c (.int .i64 1)))) (.c (.q 14 [] (.ia 1 (.t 10) (.t 13))) (.c (.q 15 [] (.ld (.t 14))) (.c (.q 2 [] (.mv (.t 15))) .nil)))))))) .ret)
def t115_1 := b115_1
theorem u115_1 : vcK P t115_1 k e w = vcK P b115_1 k e w := rfl
abbrev b115_2 : X := (.seq (.drw [3] (.c (.q 4 [] (.fa 1 (.t 1))) (.c (.q 5 [] (.ld (.t 4))) (.c (.q 7 [] (.fa 2 (.t 1))) (.c (.q 8 [] (.ld (.t 7))) (.c (.e (some 6) [] (.call false 111 [(.t 5)])) (.c (.e (some 9) [] (.call false 155 [(.t 6), (.t 8)])) (.c (.q 3 [] (.mv (.t 9))) .nil)))))))) t115_1)
def t115_2 := b115_2
theorem u115_2 : vcK P t115_2 k e w = vcK P b115_2 k e w := rfl
abbrev b115_0 : X := (.seq (.reg [1] (.c (.e (some 1) [] (.box 31 (.t 0))) (.c (.q 2 [] (.mv (.s []))) .nil))) t115_2)
def x_ileadHead := b115_0
theorem u115_0 : vcK P x_ileadHead k e w = vcK P b115_0 k e w := rfl
def r_ileadHead : List XO := [(.mv (.t 2))]
theorem c_ileadHead : convF Try.prog [89, 116, 117, 121, 143, 161, 162, 163, 166, 168, 234] Try.f115 [([1], []), ([3], []), ([2], [])] = some (x_ileadHead, r_ileadHead) := by kernel_rfl
def us_ileadHead := aI @u115_0 (aI @u115_1 @u115_2)
abbrev b159_1 : X := (.reg [6, 7, 11, 12, 13] (.c (.q 21 [] (.mv (.t 7))) (.c (.q 22 [] (.mv (.t 9))) (.c (.e (some 23) [] (.call false 173 [(.t 21), (.t 22)])) (.c (.q 7 [] (.mv (.t 23))) .nil)))))
def t159_1 := b159_1
theorem u159_1 : vcK P t159_1 k e w = vcK P b159_1 k e w := rfl
abbrev b159_2 : X := (.seq (.reg [6, 7, 9, 11, 12, 13] (.c (.q 17 [] (.mv (.t 6))) (.c (.q 18 [] (.mv (.t 7))) (.c (.e (some 19) [] (.bsl 9 1 [(.t 18)])) (.c (.e (some 20) [] (.app 22 9 1 16 [(S [])] 22 (.t 17) (.t 19))) (.c (.q 6 [] (.mv (.t 20))) .nil)))))) t159_1)
def t159_2 := b159_2
theorem u159_2 : vcK P t159_2 k e w = vcK P b159_2 k e w := rfl
abbrev b159_3 : X := (.reg [6, 7, 11, 12, 13] (.c (.q 24 [] (.bin .add (.t 13) (.c (.int .i64 1)))) (.c (.q 13 [] (.mv (.t 24))) .nil)))
def t159_3 := b159_3
theorem u159_3 : vcK P t159_3 k e w = vcK P b159_3 k e w := rfl
abbrev b159_4 : X := (.seq (.blk 1 (.seq (.reg [6, 7, 9, 11, 12, 13] (.c (.q 15 [] (.ia 1 (.t 11) (.t 13))) (.c (.q 16 [] (.ld (.t 15))) (.c (.q 9 [] (.mv (.t 16))) .nil)))) t159_2)) t159_3)
def t159_4 := b159_4
theorem u159_4 : vcK P t159_4 k e w = vcK P b159_4 k e w := rfl
abbrev b159_5 : X := (.seq (.cond (.t 14) .skip (.exit 0)) t159_4)
def t159_5 := b159_5
theorem u159_5 : vcK P t159_5 k e w = vcK P b159_5 k e w := rfl
abbrev b159_6 : X := (.seq (.reg [6, 7, 11, 12, 13, 14] (.c (.q 14 [] (.bin .lss (.t 13) (.t 12))) .nil)) t159_5)
def t159_6 := b159_6
theorem u159_6 : vcK P t159_6 k e w = vcK P b159_6 k e w := rfl
abbrev b159_7 : X := (.blk 0 (.loop [6, 7, 13] [11, 12] t159_6))
def t159_7 := b159_7
theorem u159_7 : vcK P t159_7 k e w = vcK P b159_7 k e w := rfl
abbrev b159_8 : X := (.seq (.reg [4, 5] (.c (.q 25 [] (.mv (.t 6))) (.c (.q 26 [] (.mv (.t 7))) (.c (.q 4 [] (.mv (.t 25))) (.c (.q 5 [] (.mv (.t 26))) .nil))))) .ret)
def t159_8 := b159_8
theorem u159_8 : vcK P t159_8 k e w = vcK P b159_8 k e w := rfl
abbrev b159_9 : X := (.seq (.seq (.reg [6, 7, 11, 12, 13] (.c (.q 11 [] (.mv (.t 0))) (.c (.q 12 [] (.lens (.t 11))) (.c (.q 13 [] (.mv (.c (.int .i64 0)))) .nil)))) t159_7) t159_8)
def t159_9 := b159_9
theorem u159_9 : vcK P t159_9 k e w = vcK P b159_9 k e w := rfl
abbrev b159_10 : X := (.seq (.reg [0, 6, 7] (.c (.q 10 [] (.mv (.t 1))) (.c (.q 7 [] (.mv (.t 10))) .nil))) t159_9)
def t159_10 := b159_10
theorem u159_10 : vcK P t159_10 k e w = vcK P b159_10 k e w := rfl
abbrev b159_11 : X := (.seq (.reg [0, 1, 6] (.c (.q 6 [] (.mv (.c (.slice none 0 0)))) .nil)) t159_10)
def t159_11 := b159_11
theorem u159_11 : vcK P t159_11 k e w = vcK P b159_11 k e w := rfl
abbrev b159_0 : X := (.seq (.reg [0, 1] (.c (.q 4 [] (.mv (.c (.slice none 0 0)))) (.c (.q 5 [] (.mv (.s []))) .nil))) t159_11)
def x_sl4Lead := b159_0
theorem u159_0 : vcK P x_sl4Lead k e w = vcK P b159_0 k e w := rfl
def r_sl4Lead : List XO := [(.mv (.t 4)), (.mv (.t 5))]
theorem c_sl4Lead : convF Try.prog [89, 116, 117, 121, 143, 161, 162, 163, 166, 168, 234] Try.f159 [([0, 1], []), ([0, 1, 6], []), ([0, 6, 7], []), ([6, 7, 11, 12, 13], []), ([6, 7, 13], [11, 12]), ([6, 7, 11, 12, 13, 14], []), ([6, 7, 9, 11, 12, 13], []), ([6, 7, 9, 11, 12, 13], []), ([6, 7, 11, 12, 13], []), ([6, 7, 11, 12, 13], []), ([4, 5], [])] = some (x_sl4Lead, r_sl4Lead) := by kernel_rfl
def us_sl4Lead := aI @u159_0 (aI @u159_1 (aI @u159_2 (aI @u159_3 (aI @u159_4 (aI @u159_5 (aI @u159_6 (aI @u159_7 (aI @u159_8 (aI @u159_9 (aI @u159_10 @u159_11))))))))))
abbrev b12_1 : X := (.cond (.t 11) (.seq (.reg [4] (.c (.q 4 [] (.mv (.c (.int .i64 (-1))))) .nil)) .ret) .skip)
def t12_1 := b12_1
theorem u12_1 : vcK P t12_1 k e w = vcK P b12_1 k e w := rfl
abbrev b12_2 : X := (.cond (.t 17) (.seq (.reg [4] (.c (.q 4 [] (.mv (.c (.int .i64 (-1))))) .nil)) .ret) .skip)
def t12_2 := b12_2
theorem u12_2 : vcK P t12_2 k e w = vcK P b12_2 k e w := rfl
abbrev b12_3 : X := (.seq (.reg [4] (.c (.q 18 [] (.mv (.t 1))) (.c (.q 4 [] (.mv (.t 18))) .nil))) .ret)
def t12_3 := b12_3
theorem u12_3 : vcK P t12_3 k e w = vcK P b12_3 k e w := rfl
abbrev b12_4 : X := (.seq (.seq (.reg [1, 17] (.c (.q 16 [] (.mv (.t 1))) (.c (.q 17 [] (.bin .lss (.t 16) (.c (.int .i64 0)))) .nil))) t12_2) t12_3)
def t12_4 := b12_4
theorem u12_4 : vcK P t12_4 k e w = vcK P b12_4 k e w := rfl
abbrev b12_5 : X := (.seq (.reg [1] (.c (.q 12 [] (.fa 2 (.t 2))) (.c (.q 13 [] (.ld (.t 12))) (.c (.q 14 [] (.mv (.t 1))) (.c (.e (some 15) [] (.call false 32 [(.t 13), (.t 14)])) (.c (.q 1 [] (.mv (.t 15))) .nil)))))) t12_4)
def t12_5 := b12_5
theorem u12_5 : vcK P t12_5 k e w = vcK P b12_5 k e w := rfl
abbrev b12_6 : X := (.seq (.seq (.reg [1, 2, 11] (.c (.q 10 [] (.mv (.t 1))) (.c (.q 11 [] (.bin .lss (.t 10) (.c (.int .i64 0)))) .nil))) t12_1) t12_5)
def t12_6 := b12_6
theorem u12_6 : vcK P t12_6 k e w = vcK P b12_6 k e w := rfl
abbrev b12_7 : X := (.seq (.reg [1, 2] (.c (.q 5 [] (.mv (.t 1))) (.c (.q 6 [] (.fa 0 (.t 2))) (.c (.q 7 [] (.ld (.t 6))) (.c (.q 8 [] (.len (.t 7))) (.c (.q 9 [] (.bin .sub (.t 5) (.t 8))) (.c (.q 1 [] (.mv (.t 9))) .nil))))))) t12_6)
def t12_7 := b12_7
theorem u12_7 : vcK P t12_7 k e w = vcK P b12_7 k e w := rfl
abbrev b12_0 : X := (.seq (.reg [1, 2] (.c (.e (some 2) [] (.box 24 (.t 0))) (.c (.q 4 [] (.mv (.c (.int .i64 0)))) .nil))) t12_7)
def x_lszMethod := b12_0
theorem u12_0 : vcK P x_lszMethod k e w = vcK P b12_0 k e w := rfl
def r_lszMethod : List XO := [(.mv (.t 4))]
theorem c_lszMethod : convF Try.prog [89, 116, 117, 121, 143, 161, 162, 163, 166, 168, 234] Try.f12 [([1, 2], []), ([1, 2], []), ([1, 2, 11], []), ([4], []), ([1], []), ([1, 17], []), ([4], []), ([4], [])] = some (x_lszMethod, r_lszMethod) := by kernel_rfl
def us_lszMethod := aI @u12_0 (aI @u12_1 (aI @u12_2 (aI @u12_3 (aI @u12_4 (aI @u12_5 (aI @u12_6 @u12_7))))))
abbrev b15_1 : X := (.seq (.reg [2] (.c (.q 14 [] (.lda 3 (.t 3))) (.c (.e none [] (.st 3 (.t 2) (.t 14))) .nil))) .ret)
def t15_1 := b15_1
theorem u15_1 : vcK P t15_1 k e w = vcK P b15_1 k e w := rfl
abbrev b15_2 : X := (.seq (.reg [2, 3] (.c (.q 10 [] (.fa 2 (.t 1))) (.c (.q 11 [] (.ld (.t 10))) (.c (.e (some 12) [] (.call false 34 [(.t 11)])) (.c (.q 13 [] (.fa 2 (.t 3))) (.c (.e none [] (.st 1 (.t 13) (.t 12))) .nil)))))) t15_1)
def t15_2 := b15_2
theorem u15_2 : vcK P t15_2 k e w = vcK P b15_2 k e w := rfl
abbrev b15_3 : X := (.seq (.reg [1, 2, 3] (.c (.q 7 [] (.fa 1 (.t 1))) (.c (.q 8 [] (.ld (.t 7))) (.c (.q 9 [] (.fa 1 (.t 3))) (.c (.e none [] (.st 1 (.t 9) (.t 8))) .nil))))) t15_2)
def t15_3 := b15_3
theorem u15_3 : vcK P t15_3 k e w = vcK P b15_3 k e w := rfl
abbrev b15_4 : X := (.seq (.reg [1, 2, 3] (.c (.q 4 [] (.fa 0 (.t 1))) (.c (.q 5 [] (.ld (.t 4))) (.c (.q 6 [] (.fa 0 (.t 3))) (.c (.e none [] (.st 1 (.t 6) (.t 5))) .nil))))) t15_3)
def t15_4 := b15_4
theorem u15_4 : vcK P t15_4 k e w = vcK P b15_4 k e w := rfl
abbrev b15_5 : X := (.seq (.reg [1, 2, 3] (.c (.e (some 3) [] (.al 31 [(S []), (.int .i64 0), (.slice none 0 0)])) .nil)) t15_4)
def t15_5 := b15_5
theorem u15_5 : vcK P t15_5 k e w = vcK P b15_5 k e w := rfl
abbrev b15_0 : X := (.seq (.reg [1, 2] (.c (.e (some 1) [] (.box 24 (.t 0))) (.c (.e (some 2) [] (.al 31 [(S []), (.int .i64 0), (.slice none 0 0)])) .nil))) t15_5)
def x_ltoMethod := b15_0
theorem u15_0 : vcK P x_ltoMethod k e w = vcK P b15_0 k e w := rfl
def r_ltoMethod : List XO := [(.lda 3 (.t 2))]
theorem c_ltoMethod : convF Try.prog [89, 116, 117, 121, 143, 161, 162, 163, 166, 168, 234] Try.f15 [([1, 2], []), ([1, 2, 3], []), ([1, 2, 3], []), ([1, 2, 3], []), ([2, 3], []), ([2], [])] = some (x_ltoMethod, r_ltoMethod) := by kernel_rfl
def us_ltoMethod := aI @u15_0 (aI @u15_1 (aI @u15_2 (aI @u15_3 (aI @u15_4 @u15_5))))
abbrev b18_1 : X := (.cond (.t 9) (.seq (.reg [4] (.c (.q 4 [] (.mv (.c (.bool false)))) .nil)) .ret) .skip)
def t18_1 := b18_1
theorem u18_1 : vcK P t18_1 k e w = vcK P b18_1 k e w := rfl
abbrev b18_2 : X := (.cond (.t 14) (.seq (.reg [4] (.c (.q 4 [] (.mv (.c (.bool false)))) .nil)) .ret) .skip)
def t18_2 := b18_2
theorem u18_2 : vcK P t18_2 k e w = vcK P b18_2 k e w := rfl
abbrev b18_3 : X := (.cond (.t 20) (.seq (.reg [4] (.c (.q 4 [] (.mv (.c (.bool false)))) .nil)) .ret) .skip)
def t18_3 := b18_3
theorem u18_3 : vcK P t18_3 k e w = vcK P b18_3 k e w := rfl
abbrev b18_4 : X := (.seq (.reg [4] (.c (.q 4 [] (.mv (.c (.bool true)))) .nil)) .ret)
def t18_4 := b18_4
theorem u18_4 : vcK P t18_4 k e w = vcK P b18_4 k e w := rfl
abbrev b18_5 : X := (.seq (.seq (.reg [20] (.c (.q 15 [] (.fa 2 (.t 2))) (.c (.q 16 [] (.ld (.t 15))) (.c (.q 17 [] (.fa 2 (.t 3))) (.c (.q 18 [] (.ld (.t 17))) (.c (.e (some 19) [] (.call false 21 [(.t 16), (.t 18)])) (.c (.q 20 [] (.not (.t 19))) .nil))))))) t18_3) t18_4)
def t18_5 := b18_5
theorem u18_5 : vcK P t18_5 k e w = vcK P b18_5 k e w := rfl
abbrev b18_6 : X := (.seq (.seq (.reg [2, 3, 14] (.c (.q 10 [] (.fa 1 (.t 2))) (.c (.q 11 [] (.ld (.t 10))) (.c (.q 12 [] (.fa 1 (.t 3))) (.c (.q 13 [] (.ld (.t 12))) (.c (.q 14 [] (.bin .neq (.t 11) (.t 13))) .nil)))))) t18_2) t18_5)
def t18_6 := b18_6
theorem u18_6 : vcK P t18_6 k e w = vcK P b18_6 k e w := rfl
abbrev b18_7 : X := (.seq (.seq (.reg [2, 3, 9] (.c (.q 5 [] (.fa 0 (.t 2))) (.c (.q 6 [] (.ld (.t 5))) (.c (.q 7 [] (.fa 0 (.t 3))) (.c (.q 8 [] (.ld (.t 7))) (.c (.q 9 [] (.bin .neq (.t 6) (.t 8))) .nil)))))) t18_1) t18_6)
def t18_7 := b18_7
theorem u18_7 : vcK P t18_7 k e w = vcK P b18_7 k e w := rfl
abbrev b18_0 : X := (.seq (.reg [2, 3] (.c (.e (some 2) [] (.box 31 (.t 0))) (.c (.e (some 3) [] (.box 31 (.t 1))) (.c (.q 4 [] (.mv (.c (.bool false)))) .nil)))) t18_7)
def x_leqMethod := b18_0
theorem u18_0 : vcK P x_leqMethod k e w = vcK P b18_0 k e w := rfl
def r_leqMethod : List XO := [(.mv (.t 4))]
theorem c_leqMethod : convF Try.prog [89, 116, 117, 121, 143, 161, 162, 163, 166, 168, 234] Try.f18 [([2, 3], []), ([2, 3, 9], []), ([4], []), ([2, 3, 14], []), ([4], []), ([20], []), ([4], []), ([4], [])] = some (x_leqMethod, r_leqMethod) := by kernel_rfl
def us_leqMethod := aI @u18_0 (aI @u18_1 (aI @u18_2 (aI @u18_3 (aI @u18_4 (aI @u18_5 (aI @u18_6 @u18_7))))))
end

/-- A method's cells. -/
def fM (nm : List UInt8) (st : Int) (x : Value) : List Value := [S nm, .int .i64 st, x]
/-- A method's value: its changes are the slice x. -/
abbrev mV (nm : List UInt8) (st : Int) (x : Value) : Value := .agg ⟨fM nm st x⟩
theorem fMg (nm : List UInt8) (st : Int) (x : Value) : (∀ v, (fM nm st x).getD 0 v = S nm) ∧ (∀ v, (fM nm st x).getD 1 v = .int .i64 st) ∧ (∀ v, (fM nm st x).getD 2 v = x) ∧ (fM nm st x).length = 3 := ⟨fun _ => rfl, fun _ => rfl, fun _ => rfl, rfl⟩
theorem fM_one (nm : List UInt8) (st : Int) (x : Value) (h : x.oneCell' = true) : ∀ u ∈ fM nm st x, u.oneCell' = true := fun u hu => by
  simp only [fM, List.mem_cons, List.not_mem_nil, or_false] at hu
  rcases hu with rfl | rfl | rfl
  · rfl
  · rfl
  · exact h
theorem Sq.one' {α : Type} {f : α → List Value} {z : Nat} {w : World} {v : Value} {l : List α} (h : Sq f z w v l) : v.oneCell' = true := by
  rcases h.2.2 with ⟨rfl, _⟩ | ⟨a, c, rfl, _⟩ <;> rfl
def WordUp (l : List UInt8) (k : Nat) : Prop := ∀ i < k, 97 ≤ (l.getD i 0).toNat ∧ (l.getD i 0).toNat ≤ 122
instance (l : List UInt8) (k : Nat) : Decidable (WordUp l k) := by unfold WordUp; infer_instance
theorem WordUp.succ {l : List UInt8} {k : Nat} (h : WordUp l k) (h1 : 97 ≤ (l.getD k 0).toNat ∧ (l.getD k 0).toNat ≤ 122) : WordUp l (k + 1) := fun i hi => by
  by_cases he : i = k
  · subst he; exact h1
  · exact h i (by omega)
def IsWord (l : List UInt8) : Prop := WordUp l l.length ∧ 1 ≤ l.length ∧ l.length ≤ 10
instance (l : List UInt8) : Decidable (IsWord l) := by unfold IsWord; infer_instance
/-- A valid method. -/
def IsMethod (nm : List UInt8) (st : Int) (cs : List (List UInt8)) : Prop := IsWord nm ∧ (3 ≤ st ∧ st ≤ 8) ∧ (1 ≤ cs.length ∧ cs.length ≤ 40) ∧ ∀ c ∈ cs, IsChange st c
instance (nm : List UInt8) (st : Int) (cs : List (List UInt8)) : Decidable (IsMethod nm st cs) := by unfold IsMethod; infer_instance
theorem iisWord_ok (l : List UInt8) (hl : l.length ≤ 1048576) (w : World) : Fn 153 [S l] w (fun v _ => v = .bool (decide (IsWord l))) := by
  (refine callsV_of mix Try.func153 c_iisWord ?_; simp only [↓vsd, vsn, gW, qd, qv, ev, pick, argE, zipE, ne_eq, eq_self, forall_const, implies_true, if_true, if_false, reduceIte, reduceCtorEq, Nat.reduceEqDiff, Nat.reduceAdd, Nat.reduceLT, ↓us_iisWord, r_iisWord])
  refine m_upto l.length (fun k vs w' => vs = [.int .i64 k] ∧ WordUp l k ∧ Ext w w') ⟨rfl, fun i hi => absurd hi (Nat.not_lt_zero i), Ext.refl _⟩ ?_
  rintro k vs w1 hk ⟨rfl, hup, hx⟩
  by_cases hlt : k < l.length
  · have hltI : (k : Int) < l.length := by omega
    have hltJ : ¬ (l.length : Int) ≤ k := by omega
    simp only [↓vsd, vsn, gW, qd, qv, ev, pick, argE, zipE, ne_eq, eq_self, forall_const, implies_true, if_true, if_false, reduceIte, reduceCtorEq, Nat.reduceEqDiff, Nat.reduceAdd, Nat.reduceLT, ↓us_iisWord, r_iisWord, hltI, hltJ]
    have hcl := (l.getD k 0).toNat_lt
    refine ⟨by omega, fun _ => by omega, fun hbad => ⟨hx, ?_⟩, fun hgood => ⟨inR_i64 (by omega), UpTo.next hlt ⟨rfl, hup.succ (by omega), hx⟩⟩⟩
    have : ¬ IsWord l := fun h => by have := h.1 k hlt; omega
    simp only [this, decide_false]
  · obtain rfl : k = l.length := by omega
    have hltI : ¬ (l.length : Int) < l.length := by omega
    simp only [↓vsd, vsn, gW, qd, qv, ev, pick, argE, zipE, ne_eq, eq_self, forall_const, implies_true, if_true, if_false, reduceIte, reduceCtorEq, Nat.reduceEqDiff, Nat.reduceAdd, Nat.reduceLT, ↓us_iisWord, r_iisWord, hltI]
    refine ⟨hx, ?_⟩
    rw [← Bool.decide_and]
    congr 1
    exact propext ⟨fun h => ⟨hup, by omega, by omega⟩, fun h => ⟨by have := h.2.1; omega, by have := h.2.2; omega⟩⟩
theorem sl4Name_ok (l : List UInt8) (hl : l.length ≤ 1048576) (w : World) : Fn 158 [S l] w (fun v _ => v = .bool (decide (IsWord l))) := by
  (refine callsV_of mix Try.func158 c_sl4Name ?_; simp only [↓vsd, vsn, gW, qd, qv, ev, pick, argE, zipE, ne_eq, eq_self, forall_const, implies_true, if_true, if_false, reduceIte, reduceCtorEq, Nat.reduceEqDiff, Nat.reduceAdd, Nat.reduceLT, ↓us_sl4Name, r_sl4Name])
  refine m_upto l.length (fun k vs w' => vs = [.int .i64 k] ∧ WordUp l k ∧ Ext w w') ⟨rfl, fun i hi => absurd hi (Nat.not_lt_zero i), Ext.refl _⟩ ?_
  rintro k vs w1 hk ⟨rfl, hup, hx⟩
  by_cases hlt : k < l.length
  · have hltI : (k : Int) < l.length := by omega
    have hltJ : ¬ (l.length : Int) ≤ k := by omega
    simp only [↓vsd, vsn, gW, qd, qv, ev, pick, argE, zipE, ne_eq, eq_self, forall_const, implies_true, if_true, if_false, reduceIte, reduceCtorEq, Nat.reduceEqDiff, Nat.reduceAdd, Nat.reduceLT, ↓us_sl4Name, r_sl4Name, hltI, hltJ]
    have hcl := (l.getD k 0).toNat_lt
    refine ⟨by omega, fun _ => by omega, fun hbad => ⟨hx, ?_⟩, fun hgood => ⟨inR_i64 (by omega), UpTo.next hlt ⟨rfl, hup.succ (by omega), hx⟩⟩⟩
    have : ¬ IsWord l := fun h => by have := h.1 k hlt; omega
    simp only [this, decide_false]
  · obtain rfl : k = l.length := by omega
    have hltI : ¬ (l.length : Int) < l.length := by omega
    simp only [↓vsd, vsn, gW, qd, qv, ev, pick, argE, zipE, ne_eq, eq_self, forall_const, implies_true, if_true, if_false, reduceIte, reduceCtorEq, Nat.reduceEqDiff, Nat.reduceAdd, Nat.reduceLT, ↓us_sl4Name, r_sl4Name, hltI]
    refine m_call (sl1In_ok _ _ _ _) ?_
    rintro _ w2 hx2 rfl
    simp only [↓vsd, vsn, gW, qd, qv, ev, pick, argE, zipE, ne_eq, eq_self, forall_const, implies_true, if_true, if_false, reduceIte, reduceCtorEq, Nat.reduceEqDiff, Nat.reduceAdd, Nat.reduceLT, ↓us_sl4Name, r_sl4Name]
    refine ⟨hx.trans hx2, ?_⟩
    rw [← Bool.decide_and]
    congr 1
    exact propext ⟨fun h => ⟨hup, by omega, by omega⟩, fun h => ⟨by have := h.2.1; omega, by have := h.2.2; omega⟩⟩
theorem iareChanges_ok (n : Int) (v : Value) (cs : List (List UInt8)) (hs : ∀ c ∈ cs, c.length ≤ 1048576) (hl : cs.length ≤ 1000000000) (w : World) (h : Sq fS 1 w v cs) : Fn 154 [.int .i64 n, v] w (fun r _ => r = .bool (decide ((1 ≤ cs.length ∧ cs.length ≤ 40) ∧ ∀ c ∈ cs, IsChange n c))) := by
  (refine callsV_of mix Try.func154 c_iareChanges ?_; simp only [↓vsd, vsn, gW, qd, qv, ev, pick, argE, zipE, ne_eq, eq_self, forall_const, implies_true, if_true, if_false, reduceIte, reduceCtorEq, Nat.reduceEqDiff, Nat.reduceAdd, Nat.reduceLT, ↓us_iareChanges, r_iareChanges])
  simp only [↓vsd, vsn, gW, qd, qv, ev, pick, argE, zipE, ne_eq, eq_self, forall_const, implies_true, if_true, if_false, reduceIte, reduceCtorEq, Nat.reduceEqDiff, Nat.reduceAdd, Nat.reduceLT, ↓us_iareChanges, r_iareChanges, h.facts]
  refine ⟨fun hbad => ⟨Ext.refl _, ?_⟩, fun hgood => ?_⟩
  · have : ¬ ((1 ≤ cs.length ∧ cs.length ≤ 40) ∧ ∀ c ∈ cs, IsChange n c) := fun hh => by have := hh.1; omega
    simp only [this, decide_false]
  refine m_upto cs.length (fun k vs w' => vs = [.int .i64 k] ∧ (∀ c ∈ cs.take k, IsChange n c) ∧ Ext w w') ⟨rfl, by simp, Ext.refl _⟩ ?_
  rintro k vs w1 hk ⟨rfl, hall, hx⟩
  have hq := h.ext hx
  by_cases hlt : k < cs.length
  · have hltI : (k : Int) < cs.length := by omega
    have hltJ : ¬ (cs.length : Int) ≤ k := by omega
    simp only [↓vsd, vsn, gW, qd, qv, ev, pick, argE, zipE, ne_eq, eq_self, forall_const, implies_true, if_true, if_false, reduceIte, reduceCtorEq, Nat.reduceEqDiff, Nat.reduceAdd, Nat.reduceLT, ↓us_iareChanges, r_iareChanges, hq.facts, hq.at1 [] hlt, hltI, hltJ]
    refine ⟨by omega, m_call (iGoodChange_ok n _ (hs _ (getD_mem [] hlt)) _) ?_⟩
    rintro _ w2 hx2 rfl
    simp only [↓vsd, vsn, gW, qd, qv, ev, pick, argE, zipE, ne_eq, eq_self, forall_const, implies_true, if_true, if_false, reduceIte, reduceCtorEq, Nat.reduceEqDiff, Nat.reduceAdd, Nat.reduceLT, ↓us_iareChanges, r_iareChanges]
    refine ⟨fun hbad => ⟨hx.trans hx2, ?_⟩, fun hg => ⟨inR_i64 (by omega), UpTo.next hlt ⟨rfl, fun c hc => ?_, hx.trans hx2⟩⟩⟩
    · have : ¬ ((1 ≤ cs.length ∧ cs.length ≤ 40) ∧ ∀ c ∈ cs, IsChange n c) := fun hh => hbad (hh.2 _ (getD_mem [] hlt))
      simp only [this, decide_false]
    · rcases mem_take (d := []) hlt hc with h | rfl
      · exact hall c h
      · exact hg
  · obtain rfl : k = cs.length := by omega
    have hltI : ¬ (cs.length : Int) < cs.length := by omega
    simp only [↓vsd, vsn, gW, qd, qv, ev, pick, argE, zipE, ne_eq, eq_self, forall_const, implies_true, if_true, if_false, reduceIte, reduceCtorEq, Nat.reduceEqDiff, Nat.reduceAdd, Nat.reduceLT, ↓us_iareChanges, r_iareChanges, hltI]
    rw [List.take_length] at hall
    exact ⟨hx, by simp only [decide_eq_true (show (1 ≤ cs.length ∧ cs.length ≤ 40) ∧ ∀ c ∈ cs, IsChange n c from ⟨by omega, hall⟩)]⟩
theorem iGoodMethod_ok (nm : List UInt8) (st : Int) (v : Value) (cs : List (List UInt8)) (hnm : nm.length ≤ 1048576) (hs : ∀ c ∈ cs, c.length ≤ 1048576) (hl : cs.length ≤ 1000000000) (w : World) (h : Sq fS 1 w v cs) : Fn 104 [mV nm st v] w (fun r _ => r = .bool (decide (IsMethod nm st cs))) := by
  (refine callsV_of mix Try.func104 c_iGoodMethod ?_; simp only [↓vsd, vsn, gW, qd, qv, ev, pick, argE, zipE, ne_eq, eq_self, forall_const, implies_true, if_true, if_false, reduceIte, reduceCtorEq, Nat.reduceEqDiff, Nat.reduceAdd, Nat.reduceLT, ↓us_iGoodMethod, r_iGoodMethod])
  refine m_al ?_
  rintro b w1 hb hblk hx1 hs1
  have h1 : Blk w1 b (fM nm st v) 31 := hblk
  have hq1 := h.ext hx1
  simp only [↓vsd, vsn, gW, qd, qv, ev, pick, argE, zipE, ne_eq, eq_self, forall_const, implies_true, if_true, if_false, reduceIte, reduceCtorEq, Nat.reduceEqDiff, Nat.reduceAdd, Nat.reduceLT, ↓us_iGoodMethod, r_iGoodMethod, h1.facts, fMg]
  refine m_call (iisWord_ok nm (by omega) _) ?_
  rintro _ w2 hx2 rfl
  have h2 := h1.ext hx2
  simp only [↓vsd, vsn, gW, qd, qv, ev, pick, argE, zipE, ne_eq, eq_self, forall_const, implies_true, if_true, if_false, reduceIte, reduceCtorEq, Nat.reduceEqDiff, Nat.reduceAdd, Nat.reduceLT, ↓us_iGoodMethod, r_iGoodMethod, h2.facts, fMg]
  have hx12 := hx1.trans hx2
  refine ⟨fun hw => ?_, fun hw => ⟨hx12, ?_⟩⟩
  · refine m_call (iareChanges_ok st v cs hs hl _ (h.ext hx12)) ?_
    rintro _ w3 hx3 rfl
    simp only [↓vsd, vsn, gW, qd, qv, ev, pick, argE, zipE, ne_eq, eq_self, forall_const, implies_true, if_true, if_false, reduceIte, reduceCtorEq, Nat.reduceEqDiff, Nat.reduceAdd, Nat.reduceLT, ↓us_iGoodMethod, r_iGoodMethod]
    refine ⟨hx12.trans hx3, ?_⟩
    rw [← Bool.decide_and]
    congr 1
    refine propext ⟨fun hh => ⟨hw, ?_, hh.2.1, hh.2.2⟩, fun hh => ⟨hw, hh.2.2.1, hh.2.2.2⟩⟩
    exact (hh.2.2 _ (getD_mem [] (show 0 < cs.length by have := hh.2.1; omega))).1
  · have : ¬ IsMethod nm st cs := fun hh => hw hh.1
    simp only [this, decide_false]
theorem sl4Good_ok (nm : List UInt8) (st : Int) (v : Value) (cs : List (List UInt8)) (hnm : nm.length ≤ 1048576) (hs : ∀ c ∈ cs, c.length ≤ 1048576) (hl : cs.length ≤ 1000000000) (w : World) (h : Sq fS 1 w v cs) : Fn 106 [mV nm st v] w (fun r _ => r = .bool (decide (IsMethod nm st cs))) := by
  (refine callsV_of mix Try.func106 c_sl4Good ?_; simp only [↓vsd, vsn, gW, qd, qv, ev, pick, argE, zipE, ne_eq, eq_self, forall_const, implies_true, if_true, if_false, reduceIte, reduceCtorEq, Nat.reduceEqDiff, Nat.reduceAdd, Nat.reduceLT, ↓us_sl4Good, r_sl4Good])
  refine m_al ?_
  rintro b w1 hb hblk hx1 hs1
  have h1 : Blk w1 b (fM nm st v) 31 := hblk
  have hq1 := h.ext hx1
  simp only [↓vsd, vsn, gW, qd, qv, ev, pick, argE, zipE, ne_eq, eq_self, forall_const, implies_true, if_true, if_false, reduceIte, reduceCtorEq, Nat.reduceEqDiff, Nat.reduceAdd, Nat.reduceLT, ↓us_sl4Good, r_sl4Good, h1.facts, fMg, hq1.facts]
  refine m_upto cs.length (fun k vs w' => vs = [.int .i64 k] ∧ (∀ c ∈ cs.take k, IsChange st c) ∧ Ext w1 w') ⟨rfl, by simp, Ext.refl _⟩ ?_
  rintro k vs w2 hk ⟨rfl, hall, hx⟩
  have hq := hq1.ext hx
  have h2 := h1.ext hx
  have hx2 := hx1.trans hx
  by_cases hlt : k < cs.length
  · have hltI : (k : Int) < cs.length := by omega
    have hltJ : ¬ (cs.length : Int) ≤ k := by omega
    simp only [↓vsd, vsn, gW, qd, qv, ev, pick, argE, zipE, ne_eq, eq_self, forall_const, implies_true, if_true, if_false, reduceIte, reduceCtorEq, Nat.reduceEqDiff, Nat.reduceAdd, Nat.reduceLT, ↓us_sl4Good, r_sl4Good, hq.facts, hq.at1 [] hlt, hltI, hltJ, h2.facts, fMg]
    refine ⟨by omega, m_call (sl2Change_ok st _ (hs _ (getD_mem [] hlt)) _) ?_⟩
    rintro _ w3 hx3 rfl
    simp only [↓vsd, vsn, gW, qd, qv, ev, pick, argE, zipE, ne_eq, eq_self, forall_const, implies_true, if_true, if_false, reduceIte, reduceCtorEq, Nat.reduceEqDiff, Nat.reduceAdd, Nat.reduceLT, ↓us_sl4Good, r_sl4Good]
    refine ⟨fun hbad => ⟨hx2.trans hx3, ?_⟩, fun hg => ⟨inR_i64 (by omega), UpTo.next hlt ⟨rfl, fun c hc => ?_, hx.trans hx3⟩⟩⟩
    · have : ¬ IsMethod nm st cs := fun hh => hbad (hh.2.2.2 _ (getD_mem [] hlt))
      simp only [this, decide_false]
    · rcases mem_take (d := []) hlt hc with h | rfl
      · exact hall c h
      · exact hg
  · obtain rfl : k = cs.length := by omega
    have hltI : ¬ (cs.length : Int) < cs.length := by omega
    simp only [↓vsd, vsn, gW, qd, qv, ev, pick, argE, zipE, ne_eq, eq_self, forall_const, implies_true, if_true, if_false, reduceIte, reduceCtorEq, Nat.reduceEqDiff, Nat.reduceAdd, Nat.reduceLT, ↓us_sl4Good, r_sl4Good, hltI, h2.facts, fMg]
    rw [List.take_length] at hall
    refine m_call (sl4Name_ok nm (by omega) _) ?_
    rintro _ w3 hx3 rfl
    have h3 := h2.ext hx3
    simp only [↓vsd, vsn, gW, qd, qv, ev, pick, argE, zipE, ne_eq, eq_self, forall_const, implies_true, if_true, if_false, reduceIte, reduceCtorEq, Nat.reduceEqDiff, Nat.reduceAdd, Nat.reduceLT, ↓us_sl4Good, r_sl4Good, h3.facts, fMg]
    refine ⟨fun hw => ?_, fun hw => ?_⟩
    · refine m_call (sl1In_ok _ _ _ _) ?_
      rintro _ w4 hx4 rfl
      have h4 := h3.ext hx4
      have hq4 := (hq.ext hx3).ext hx4
      simp only [↓vsd, vsn, gW, qd, qv, ev, pick, argE, zipE, ne_eq, eq_self, forall_const, implies_true, if_true, if_false, reduceIte, reduceCtorEq, Nat.reduceEqDiff, Nat.reduceAdd, Nat.reduceLT, ↓us_sl4Good, r_sl4Good, h4.facts, fMg, hq4.facts]
      refine ⟨fun hh => ?_, fun hh => ⟨((hx2.trans hx3).trans hx4), ?_⟩⟩
      · refine m_call (sl1In_ok _ _ _ _) ?_
        rintro _ w5 hx5 rfl
        simp only [↓vsd, vsn, gW, qd, qv, ev, pick, argE, zipE, ne_eq, eq_self, forall_const, implies_true, if_true, if_false, reduceIte, reduceCtorEq, Nat.reduceEqDiff, Nat.reduceAdd, Nat.reduceLT, ↓us_sl4Good, r_sl4Good]
        refine ⟨((hx2.trans hx3).trans hx4).trans hx5, ?_⟩
        simp only [← Bool.decide_and]
        congr 1
        exact propext ⟨fun h5 => ⟨hh.1, hh.2, by omega, hall⟩, fun h5 => ⟨hh, by have := h5.2.2.1; omega⟩⟩
      · have : ¬ IsMethod nm st cs := fun h5 => hh ⟨h5.1, h5.2.1⟩
        simp only [this, decide_false]
    · have : ¬ IsMethod nm st cs := fun h5 => hw h5.1
      exact ⟨hx2.trans hx3, by simp only [this, decide_false]⟩
/-- A row and the rows under the first changes. -/
def rowsU (l : List UInt8) (cs : List (List UInt8)) (k : Nat) : List (List UInt8) := (List.range k).map fun i => underL l (cs.take i)
theorem Own.one {α : Type} {f : α → List Value} {z E B : Nat} {w : World} {a : α} {b : Nat} {cs : List Value} (hz : ∀ a, (f a).length = z) (hb : Blk w b cs E) (e : cs = f a) (hB : B ≤ b) : Own f z E B w (.slice (some ⟨b, 0, none⟩) 1 1) [a] :=
  ⟨hz, .inr ⟨b, 1, cs, rfl, hB, hb, Nat.le_refl _, by decide, by rw [e, hz, Nat.one_mul], by rw [e]; simp only [List.length_singleton, Nat.one_mul, List.flatMap_cons, List.flatMap_nil, List.append_nil]; rw [← hz a, List.take_length]⟩⟩
theorem rowsU_len (l : List UInt8) (cs : List (List UInt8)) (k : Nat) : (rowsU l cs k).length = k := by simp [rowsU]
theorem rowsU_get (l : List UInt8) (cs : List (List UInt8)) (k i : Nat) (h : i < k) : (rowsU l cs k).getD i [] = underL l (cs.take i) := by
  unfold rowsU
  rw [List.getD_eq_getElem?_getD, List.getElem?_map, List.getElem?_range h]; rfl
theorem irowsUnder_ok (l : List UInt8) (v : Value) (cs : List (List UInt8)) (n : Int) (hl : IsRow l) (hcs : ∀ c ∈ cs, IsChange n c) (hlen : cs.length ≤ 40) (w : World) (h : Sq fS 1 w v cs) : Fn 155 [S l, v] w (fun r w' => Own fS 1 9 w.heap.size w' r (rowsU l cs (cs.length + 1))) := by
  (refine callsV_of mix Try.func155 c_irowsUnder ?_; simp only [↓vsd, vsn, gW, qd, qv, ev, pick, argE, zipE, ne_eq, eq_self, forall_const, implies_true, if_true, if_false, reduceIte, reduceCtorEq, Nat.reduceEqDiff, Nat.reduceAdd, Nat.reduceLT, ↓us_irowsUnder, r_irowsUnder])
  refine m_bsl (one_el rfl) ?_
  rintro b w1 hb hblk hx1 hs1
  simp only [↓vsd, vsn, gW, qd, qv, ev, pick, argE, zipE, ne_eq, eq_self, forall_const, implies_true, if_true, if_false, reduceIte, reduceCtorEq, Nat.reduceEqDiff, Nat.reduceAdd, Nat.reduceLT, ↓us_irowsUnder, r_irowsUnder, h.facts]
  refine m_upto cs.length (fun k vs w' => ∃ x, vs = [S (underL l (cs.take k)), x, .int .i64 k] ∧ Own fS 1 9 w.heap.size w' x (rowsU l cs (k + 1)) ∧ Ext w w') ⟨_, rfl, ?_, hx1⟩ ?_
  · exact (Own.one fS_len hblk rfl (by omega)).to rfl
  rintro k vs w2 hk ⟨x, rfl, ho, hx⟩
  have hq := h.ext hx
  by_cases hlt : k < cs.length
  · have hltI : (k : Int) < cs.length := by omega
    have hltJ : ¬ (cs.length : Int) ≤ k := by omega
    have hc := hcs _ (getD_mem [] hlt)
    have hcl := hc.len
    have hn := hc.1
    simp only [↓vsd, vsn, gW, qd, qv, ev, pick, argE, zipE, ne_eq, eq_self, forall_const, implies_true, if_true, if_false, reduceIte, reduceCtorEq, Nat.reduceEqDiff, Nat.reduceAdd, Nat.reduceLT, ↓us_irowsUnder, r_irowsUnder, hq.facts, hq.at1 [] hlt, hltI, hltJ]
    refine ⟨by omega, m_call (iapply_ok _ _ (underL_row _ hl) (by omega) hc.dig _) ?_⟩
    rintro _ w3 hx3 rfl
    simp only [↓vsd, vsn, gW, qd, qv, ev, pick, argE, zipE, ne_eq, eq_self, forall_const, implies_true, if_true, if_false, reduceIte, reduceCtorEq, Nat.reduceEqDiff, Nat.reduceAdd, Nat.reduceLT, ↓us_irowsUnder, r_irowsUnder]
    refine m_bsl (one_el rfl) ?_
    rintro b4 w4 hb4 hblk4 hx4 hs4
    simp only [↓vsd, vsn, gW, qd, qv, ev, pick, argE, zipE, ne_eq, eq_self, forall_const, implies_true, if_true, if_false, reduceIte, reduceCtorEq, Nat.reduceEqDiff, Nat.reduceAdd, Nat.reduceLT, ↓us_irowsUnder, r_irowsUnder]
    have hx34 := hx3.trans hx4
    have hrl : (rowsU l cs (k + 1)).length = k + 1 := by simp [rowsU]
    refine m_app (ho.ext hx34) (Sq.one fS_len hblk4 rfl) fS_one (by decide) (by rw [hrl]; simp; omega) (by decide) ((hx.trans hx34).size) ?_
    rintro x5 w5 ho5 hg5
    simp only [↓vsd, vsn, gW, qd, qv, ev, pick, argE, zipE, ne_eq, eq_self, forall_const, implies_true, if_true, if_false, reduceIte, reduceCtorEq, Nat.reduceEqDiff, Nat.reduceAdd, Nat.reduceLT, ↓us_irowsUnder, r_irowsUnder]
    have hs := underL_snoc l cs k hlt
    exact ⟨inR_i64 (by omega), UpTo.next hlt ⟨x5, by rw [hs]; rfl, ho5.to (by rw [← hs]; simp [rowsU, List.range_succ]), (ho.ext hx34).grown (hx.trans hx34) (Nat.le_refl _) hg5⟩⟩
  · obtain rfl : k = cs.length := by omega
    have hltI : ¬ (cs.length : Int) < cs.length := by omega
    simp only [↓vsd, vsn, gW, qd, qv, ev, pick, argE, zipE, ne_eq, eq_self, forall_const, implies_true, if_true, if_false, reduceIte, reduceCtorEq, Nat.reduceEqDiff, Nat.reduceAdd, Nat.reduceLT, ↓us_irowsUnder, r_irowsUnder, hltI]
    exact ⟨hx, ho⟩
theorem sl4Lead_ok (l : List UInt8) (v : Value) (cs : List (List UInt8)) (n : Int) (hl : IsRow l) (hcs : ∀ c ∈ cs, IsChange n c) (hlen : cs.length ≤ 40) (w : World) (h : Sq fS 1 w v cs) : Fn 159 [v, S l] w (fun r w' => ∃ x, r = .tuple ⟨[x, S (underL l cs)]⟩ ∧ Own fS 1 9 w.heap.size w' x (rowsU l cs cs.length)) := by
  (refine callsV_of mix Try.func159 c_sl4Lead ?_; simp only [↓vsd, vsn, gW, qd, qv, ev, pick, argE, zipE, ne_eq, eq_self, forall_const, implies_true, if_true, if_false, reduceIte, reduceCtorEq, Nat.reduceEqDiff, Nat.reduceAdd, Nat.reduceLT, ↓us_sl4Lead, r_sl4Lead])
  simp only [↓vsd, vsn, gW, qd, qv, ev, pick, argE, zipE, ne_eq, eq_self, forall_const, implies_true, if_true, if_false, reduceIte, reduceCtorEq, Nat.reduceEqDiff, Nat.reduceAdd, Nat.reduceLT, ↓us_sl4Lead, r_sl4Lead, h.facts]
  refine m_upto cs.length (fun k vs w' => ∃ x, vs = [x, S (underL l (cs.take k)), .int .i64 k] ∧ Own fS 1 9 w.heap.size w' x (rowsU l cs k) ∧ Ext w w') ⟨_, rfl, Own.nil fS_len, Ext.refl _⟩ ?_
  rintro k vs w2 hk ⟨x, rfl, ho, hx⟩
  have hq := h.ext hx
  by_cases hlt : k < cs.length
  · have hltI : (k : Int) < cs.length := by omega
    have hltJ : ¬ (cs.length : Int) ≤ k := by omega
    have hc := hcs _ (getD_mem [] hlt)
    have hcl := hc.len
    have hn := hc.1
    simp only [↓vsd, vsn, gW, qd, qv, ev, pick, argE, zipE, ne_eq, eq_self, forall_const, implies_true, if_true, if_false, reduceIte, reduceCtorEq, Nat.reduceEqDiff, Nat.reduceAdd, Nat.reduceLT, ↓us_sl4Lead, r_sl4Lead, hq.facts, hq.at1 [] hlt, hltI, hltJ]
    refine ⟨by omega, m_bsl (one_el rfl) ?_⟩
    rintro b4 w4 hb4 hblk4 hx4 hs4
    simp only [↓vsd, vsn, gW, qd, qv, ev, pick, argE, zipE, ne_eq, eq_self, forall_const, implies_true, if_true, if_false, reduceIte, reduceCtorEq, Nat.reduceEqDiff, Nat.reduceAdd, Nat.reduceLT, ↓us_sl4Lead, r_sl4Lead]
    have hrl : (rowsU l cs k).length = k := by simp [rowsU]
    refine m_app (ho.ext hx4) (Sq.one fS_len hblk4 rfl) fS_one (by decide) (by rw [hrl]; simp; omega) (by decide) ((hx.trans hx4).size) ?_
    rintro x5 w5 ho5 hg5
    have hx5 := (ho.ext hx4).grown (hx.trans hx4) (Nat.le_refl _) hg5
    simp only [↓vsd, vsn, gW, qd, qv, ev, pick, argE, zipE, ne_eq, eq_self, forall_const, implies_true, if_true, if_false, reduceIte, reduceCtorEq, Nat.reduceEqDiff, Nat.reduceAdd, Nat.reduceLT, ↓us_sl4Lead, r_sl4Lead]
    refine m_call (sl2Apply_ok _ _ (underL_row _ hl) (by omega) _) ?_
    rintro _ w6 hx6 rfl
    simp only [↓vsd, vsn, gW, qd, qv, ev, pick, argE, zipE, ne_eq, eq_self, forall_const, implies_true, if_true, if_false, reduceIte, reduceCtorEq, Nat.reduceEqDiff, Nat.reduceAdd, Nat.reduceLT, ↓us_sl4Lead, r_sl4Lead]
    have hs := underL_snoc l cs k hlt
    exact ⟨inR_i64 (by omega), UpTo.next hlt ⟨x5, by rw [hs]; rfl, (ho5.to (by simp [rowsU, List.range_succ])).ext hx6, hx5.trans hx6⟩⟩
  · obtain rfl : k = cs.length := by omega
    have hltI : ¬ (cs.length : Int) < cs.length := by omega
    simp only [↓vsd, vsn, gW, qd, qv, ev, pick, argE, zipE, ne_eq, eq_self, forall_const, implies_true, if_true, if_false, reduceIte, reduceCtorEq, Nat.reduceEqDiff, Nat.reduceAdd, Nat.reduceLT, ↓us_sl4Lead, r_sl4Lead, hltI]
    exact ⟨hx, x, by rw [List.take_length], ho⟩
theorem ileadHead_ok (nm : List UInt8) (st : Int) (v : Value) (cs : List (List UInt8)) (hm : IsMethod nm st cs) (w : World) (h : Sq fS 1 w v cs) : Fn 115 [mV nm st v] w (fun r _ => r = S (underL (roundsL st.toNat) cs)) := by
  (refine callsV_of mix Try.func115 c_ileadHead ?_; simp only [↓vsd, vsn, gW, qd, qv, ev, pick, argE, zipE, ne_eq, eq_self, forall_const, implies_true, if_true, if_false, reduceIte, reduceCtorEq, Nat.reduceEqDiff, Nat.reduceAdd, Nat.reduceLT, ↓us_ileadHead, r_ileadHead])
  refine m_al ?_
  rintro b w1 hb hblk hx1 hs1
  have h1 : Blk w1 b (fM nm st v) 31 := hblk
  have hq1 := h.ext hx1
  simp only [↓vsd, vsn, gW, qd, qv, ev, pick, argE, zipE, ne_eq, eq_self, forall_const, implies_true, if_true, if_false, reduceIte, reduceCtorEq, Nat.reduceEqDiff, Nat.reduceAdd, Nat.reduceLT, ↓us_ileadHead, r_ileadHead, h1.facts, fMg]
  obtain ⟨s, rfl⟩ : ∃ s : Nat, st = s := ⟨st.toNat, by have := hm.2.1; omega⟩
  have hs := hm.2.1
  have hd1 : Ext w1 w1.drew := dr (Ext.refl _)
  refine m_call (irounds_ok s (by omega) _) ?_
  rintro _ w2 hx2 rfl
  have hx12 := ud hx2
  have h2 := h1.ext hx12
  simp only [↓vsd, vsn, gW, qd, qv, ev, pick, argE, zipE, ne_eq, eq_self, forall_const, implies_true, if_true, if_false, reduceIte, reduceCtorEq, Nat.reduceEqDiff, Nat.reduceAdd, Nat.reduceLT, ↓us_ileadHead, r_ileadHead, h2.facts, fMg]
  have hrow := roundsL_row s (by omega)
  refine m_call (irowsUnder_ok _ v cs s hrow hm.2.2.2 hm.2.2.1.2 _ (hq1.ext hx12)) ?_
  rintro x w3 hx3 ho3
  have hlen := rowsU_len (roundsL s) cs (cs.length + 1)
  have hI : ((cs.length + 1 : Nat) : Int) - 1 = (cs.length : Nat) := by omega
  have hge := rowsU_get (roundsL s) cs (cs.length + 1) cs.length (by omega)
  rw [List.take_length] at hge
  have hlt : cs.length < (rowsU (roundsL s) cs (cs.length + 1)).length := by omega
  simp only [↓vsd, vsn, gW, qd, qv, ev, pick, argE, zipE, ne_eq, eq_self, forall_const, implies_true, if_true, if_false, reduceIte, reduceCtorEq, Nat.reduceEqDiff, Nat.reduceAdd, Nat.reduceLT, ↓us_ileadHead, r_ileadHead, ho3.sq.facts, hlen, hI, ho3.sq.at1 [] hlt, hge]
  exact ⟨inR_i64 (by have := hm.2.2.1; omega), by omega, hx1.trans (hx12.trans hx3)⟩
theorem lszMethod_ok (nm : List UInt8) (st : Int) (v : Value) (cs : List (List UInt8)) (n : Int) (hn : 0 ≤ n ∧ n ≤ 1048576) (hnm : nm.length ≤ 9223372036854775807) (hl : cs.length ≤ 9223372036854775807) (hs : ∀ x ∈ cs, x.length ≤ 9223372036854775807) (w : World) (h : Sq fS 1 w v cs) :
    Fn 12 [mV nm st v, .int .i64 n] w (fun r _ => ∃ m : Int, r = .int .i64 m ∧ m ≤ 1048576 ∧ (0 ≤ m → nm.length ≤ 1048576 ∧ cs.length ≤ 1048576 ∧ ∀ x ∈ cs, x.length ≤ 1048576)) := by
  (refine callsV_of mix Try.func12 c_lszMethod ?_; simp only [↓vsd, vsn, gW, qd, qv, ev, pick, argE, zipE, ne_eq, eq_self, forall_const, implies_true, if_true, if_false, reduceIte, reduceCtorEq, Nat.reduceEqDiff, Nat.reduceAdd, Nat.reduceLT, ↓us_lszMethod, r_lszMethod])
  refine m_al ?_
  rintro b w1 hb hblk hx1 hs1
  have h1 : Blk w1 b (fM nm st v) 24 := hblk
  have hq1 := h.ext hx1
  simp only [↓vsd, vsn, gW, qd, qv, ev, pick, argE, zipE, ne_eq, eq_self, forall_const, implies_true, if_true, if_false, reduceIte, reduceCtorEq, Nat.reduceEqDiff, Nat.reduceAdd, Nat.reduceLT, ↓us_lszMethod, r_lszMethod, h1.facts, fMg]
  refine ⟨inR_i64 (by omega), fun hneg => ⟨hx1, -1, rfl, by omega, fun h => by omega⟩, fun hpos => ?_⟩
  refine m_call (lszStringS_ok v cs _ ⟨hpos, by omega⟩ hl hs _ hq1) ?_
  rintro _ w2 hx2 ⟨m, rfl, hm1, hm2⟩
  simp only [↓vsd, vsn, gW, qd, qv, ev, pick, argE, zipE, ne_eq, eq_self, forall_const, implies_true, if_true, if_false, reduceIte, reduceCtorEq, Nat.reduceEqDiff, Nat.reduceAdd, Nat.reduceLT, ↓us_lszMethod, r_lszMethod]
  refine ⟨fun hneg => ⟨hx1.trans hx2, -1, rfl, by omega, fun h => by omega⟩, fun hp => ⟨hx1.trans hx2, m, rfl, hm1, fun _ => ⟨by omega, hm2 hp⟩⟩⟩
theorem ltoMethod_ok (nm : List UInt8) (st : Int) (v : Value) (cs : List (List UInt8)) (hl : cs.length ≤ 1048576) (w : World) (h : Sq fS 1 w v cs) : Fn 15 [mV nm st v] w (fun r w' => ∃ x, r = mV nm st x ∧ Own fS 1 9 w.heap.size w' x cs) := by
  (refine callsV_of mix Try.func15 c_ltoMethod ?_; simp only [↓vsd, vsn, gW, qd, qv, ev, pick, argE, zipE, ne_eq, eq_self, forall_const, implies_true, if_true, if_false, reduceIte, reduceCtorEq, Nat.reduceEqDiff, Nat.reduceAdd, Nat.reduceLT, ↓us_ltoMethod, r_ltoMethod])
  refine m_al ?_
  rintro b w1 hb hblk hx1 hs1
  have h1 : Blk w1 b (fM nm st v) 24 := hblk
  have hq1 := h.ext hx1
  simp only [↓vsd, vsn, gW, qd, qv, ev, pick, argE, zipE, ne_eq, eq_self, forall_const, implies_true, if_true, if_false, reduceIte, reduceCtorEq, Nat.reduceEqDiff, Nat.reduceAdd, Nat.reduceLT, ↓us_ltoMethod, r_ltoMethod, h1.facts, fMg]
  refine m_al ?_
  rintro b2 w2 hb2 hblk2 hx2 hs2
  have h12 := h1.ext hx2
  simp only [↓vsd, vsn, gW, qd, qv, ev, pick, argE, zipE, ne_eq, eq_self, forall_const, implies_true, if_true, if_false, reduceIte, reduceCtorEq, Nat.reduceEqDiff, Nat.reduceAdd, Nat.reduceLT, ↓us_ltoMethod, r_ltoMethod, h12.facts, fMg]
  refine m_al ?_
  rintro b3 w3 hb3 hblk3 hx3 hs3
  have h13 := h12.ext hx3
  simp only [↓vsd, vsn, gW, qd, qv, ev, pick, argE, zipE, ne_eq, eq_self, forall_const, implies_true, if_true, if_false, reduceIte, reduceCtorEq, Nat.reduceEqDiff, Nat.reduceAdd, Nat.reduceLT, ↓us_ltoMethod, r_ltoMethod, h13.facts, fMg]
  have hxA := (hx1.trans hx2).trans hx3
  refine m_st hblk3 rfl (by simp) (fS_one _) ?_
  rintro w4 hblk4 hu4
  have hb4 : Blk w4 b3 (fM nm 0 (.slice none 0 0)) 31 := hblk4
  have h14 := hu4.blk h13 (by omega)
  have hx4 : Ext w w4 := hu4.below hxA (by omega)
  simp only [↓vsd, vsn, gW, qd, qv, ev, pick, argE, zipE, ne_eq, eq_self, forall_const, implies_true, if_true, if_false, reduceIte, reduceCtorEq, Nat.reduceEqDiff, Nat.reduceAdd, Nat.reduceLT, ↓us_ltoMethod, r_ltoMethod, h14.facts, fMg]
  refine m_st hb4 rfl (by decide : 1 + 1 ≤ 3) (fI_one _) ?_
  rintro w5 hblk5 hu5
  have hb5 : Blk w5 b3 (fM nm st (.slice none 0 0)) 31 := hblk5
  have h15 := hu5.blk h14 (by omega)
  have hx5 : Ext w w5 := hu5.below hx4 (by omega)
  simp only [↓vsd, vsn, gW, qd, qv, ev, pick, argE, zipE, ne_eq, eq_self, forall_const, implies_true, if_true, if_false, reduceIte, reduceCtorEq, Nat.reduceEqDiff, Nat.reduceAdd, Nat.reduceLT, ↓us_ltoMethod, r_ltoMethod, h15.facts, fMg]
  refine m_call (ltoStringS_ok v cs hl _ (h.ext hx5)) ?_
  rintro x w6 hx6 ho6
  simp only [↓vsd, vsn, gW, qd, qv, ev, pick, argE, zipE, ne_eq, eq_self, forall_const, implies_true, if_true, if_false, reduceIte, reduceCtorEq, Nat.reduceEqDiff, Nat.reduceAdd, Nat.reduceLT, ↓us_ltoMethod, r_ltoMethod]
  have hxc : x.cells = #[x] := of_eq_true ho6.sq.oneC
  have hx36 := ((Ext.refl w3).trans (Ext.refl w3))
  refine m_st (hb5.ext hx6) (by rw [hxc]; rfl) (by decide : 2 + 1 ≤ 3) (by rw [hxc]; intro u hu; simp only [List.mem_singleton] at hu; subst hu; exact ho6.sq.one') ?_
  rintro w7 hblk7 hu7
  rw [hxc] at hblk7
  have hb7 : Blk w7 b3 (fM nm st x) 31 := hblk7
  have hx7 : Ext w w7 := hu7.below (hx5.trans hx6) (by omega)
  have ho7 : Own fS 1 9 w5.heap.size w7 x cs := ho6.keep hu7.grown (fun c hc => by obtain rfl := Option.some.inj hc; exact (hb5.lt))
  simp only [↓vsd, vsn, gW, qd, qv, ev, pick, argE, zipE, ne_eq, eq_self, forall_const, implies_true, if_true, if_false, reduceIte, reduceCtorEq, Nat.reduceEqDiff, Nat.reduceAdd, Nat.reduceLT, ↓us_ltoMethod, r_ltoMethod, hb7.facts, fMg]
  have h27 := hu7.blk ((hu5.blk (hu4.blk (hblk2.ext hx3) (by omega)) (by omega)).ext hx6) (by omega)
  refine m_st h27 rfl (Nat.le_refl 3) (fM_one nm st x ho6.sq.one') ?_
  rintro w8 hblk8 hu8
  have hb8 : Blk w8 b2 (fM nm st x) 31 := hblk8
  have hx8 : Ext w w8 := hu8.below hx7 (by omega)
  have ho8 := ho7.keep hu8.grown (fun c hc => by obtain rfl := Option.some.inj hc; have := hb5.lt; have := h27.lt; have := (hu4.blk (hblk2.ext hx3) (by omega)).lt; have := (hu5.blk (hu4.blk (hblk2.ext hx3) (by omega)) (by omega)).lt; omega)
  simp only [↓vsd, vsn, gW, qd, qv, ev, pick, argE, zipE, ne_eq, eq_self, forall_const, implies_true, if_true, if_false, reduceIte, reduceCtorEq, Nat.reduceEqDiff, Nat.reduceAdd, Nat.reduceLT, ↓us_ltoMethod, r_ltoMethod, hb8.facts, fMg]
  exact ⟨hx8, x, rfl, ho8.mono hx5.size⟩
theorem leqMethod_ok (nm nm' : List UInt8) (st st' : Int) (v v' : Value) (cs cs' : List (List UInt8)) (hl : cs.length ≤ 1000000000) (w : World) (h : Sq fS 1 w v cs) (h' : Sq fS 1 w v' cs') : Fn 18 [mV nm st v, mV nm' st' v'] w (fun r _ => r = .bool (decide (nm = nm' ∧ st = st' ∧ cs = cs'))) := by
  (refine callsV_of mix Try.func18 c_leqMethod ?_; simp only [↓vsd, vsn, gW, qd, qv, ev, pick, argE, zipE, ne_eq, eq_self, forall_const, implies_true, if_true, if_false, reduceIte, reduceCtorEq, Nat.reduceEqDiff, Nat.reduceAdd, Nat.reduceLT, ↓us_leqMethod, r_leqMethod])
  refine m_al ?_
  rintro b w1 hb hblk hx1 hs1
  have h1 : Blk w1 b (fM nm st v) 31 := hblk
  have hq1 := h.ext hx1
  simp only [↓vsd, vsn, gW, qd, qv, ev, pick, argE, zipE, ne_eq, eq_self, forall_const, implies_true, if_true, if_false, reduceIte, reduceCtorEq, Nat.reduceEqDiff, Nat.reduceAdd, Nat.reduceLT, ↓us_leqMethod, r_leqMethod, h1.facts, fMg]
  refine m_al ?_
  rintro b2 w2 hb2 hblk2 hx2 hs2
  have h2 : Blk w2 b2 (fM nm' st' v') 31 := hblk2
  have h12 := h1.ext hx2
  simp only [↓vsd, vsn, gW, qd, qv, ev, pick, argE, zipE, ne_eq, eq_self, forall_const, implies_true, if_true, if_false, reduceIte, reduceCtorEq, Nat.reduceEqDiff, Nat.reduceAdd, Nat.reduceLT, ↓us_leqMethod, r_leqMethod, h12.facts, h2.facts, fMg]
  have hx12 := hx1.trans hx2
  refine ⟨fun hn => ⟨hx12, by simp [hn]⟩, fun hn => ⟨fun hs => ⟨hx12, by simp [hs]⟩, fun hs => ?_⟩⟩
  refine m_call (leqStringS_ok v v' cs cs' _ (h.ext hx12) (h'.ext hx12) hl) ?_
  rintro _ w3 hx3 rfl
  simp only [↓vsd, vsn, gW, qd, qv, ev, pick, argE, zipE, ne_eq, eq_self, forall_const, implies_true, if_true, if_false, reduceIte, reduceCtorEq, Nat.reduceEqDiff, Nat.reduceAdd, Nat.reduceLT, ↓us_leqMethod, r_leqMethod]
  have e : (nm = nm' ∧ st = st' ∧ cs = cs') = (cs = cs') := by simp [hn, hs]
  simp only [e]
  exact ⟨fun hh => ⟨hx12.trans hx3, by simp [hh]⟩, fun hh => ⟨hx12.trans hx3, by simp [hh]⟩⟩
end Go.Proofs.Ytnhealghpfjdcaa
