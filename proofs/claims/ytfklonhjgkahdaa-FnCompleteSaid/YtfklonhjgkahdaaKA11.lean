/-
  Methods: what a good one is, its lead's rows, its lead head.
  Conditions: none.
-/
import Derived.Test.YtfklonhjgkahdaaKA10
set_option linter.unusedSimpArgs false
set_option linter.unusedVariables false
set_option linter.defProp false
namespace Go.Proofs.Ytfklonhjgkahdaa
open Go Go.RowKit
section
variable (P : Program) (k : KT) (e : Env) (w : World)
abbrev b112_1 : X := (.cond (.t 18) (.seq (.reg [2] (.c (.q 2 [] (.mv (.c (.bool false)))) .nil)) .ret) .skip)
def t112_1 := b112_1
theorem u112_1 : vcK P t112_1 k e w = vcK P b112_1 k e w := rfl
abbrev b112_2 : X := (.seq (.reg [0, 5, 6, 18] (.c (.q 9 [] (.mv (.t 0))) (.c (.q 10 [] (.mv (.t 3))) (.c (.q 11 [] (.idx (.t 9) (.t 10))) (.c (.q 12 [] (.bin .lss (.t 11) (.c (.int .u8 97)))) (.c (.q 13 [] (.mv (.t 12))) (.c (.q 14 [(13, false)] (.mv (.t 0))) (.c (.q 15 [(13, false)] (.mv (.t 3))) (.c (.q 16 [(13, false)] (.idx (.t 14) (.t 15))) (.c (.q 17 [(13, false)] (.bin .gtr (.t 16) (.c (.int .u8 122)))) (.c (.q 18 [] (.pick (.t 13) (.c (.bool true)) (.t 17))) .nil))))))))))) t112_1)
def t112_2 := b112_2
theorem u112_2 : vcK P t112_2 k e w = vcK P b112_2 k e w := rfl
abbrev b112_3 : X := (.reg [0, 5, 6] (.c (.q 19 [] (.bin .add (.t 6) (.c (.int .i64 1)))) (.c (.q 6 [] (.mv (.t 19))) .nil)))
def t112_3 := b112_3
theorem u112_3 : vcK P t112_3 k e w = vcK P b112_3 k e w := rfl
abbrev b112_4 : X := (.seq (.blk 1 (.seq (.reg [0, 3, 5, 6] (.c (.q 8 [] (.mv (.t 6))) (.c (.q 3 [] (.mv (.t 8))) .nil))) t112_2)) t112_3)
def t112_4 := b112_4
theorem u112_4 : vcK P t112_4 k e w = vcK P b112_4 k e w := rfl
abbrev b112_5 : X := (.seq (.cond (.t 7) .skip (.exit 0)) t112_4)
def t112_5 := b112_5
theorem u112_5 : vcK P t112_5 k e w = vcK P b112_5 k e w := rfl
abbrev b112_6 : X := (.seq (.reg [0, 5, 6, 7] (.c (.q 7 [] (.bin .lss (.t 6) (.t 5))) .nil)) t112_5)
def t112_6 := b112_6
theorem u112_6 : vcK P t112_6 k e w = vcK P b112_6 k e w := rfl
abbrev b112_7 : X := (.blk 0 (.loop [6] [0, 5] t112_6))
def t112_7 := b112_7
theorem u112_7 : vcK P t112_7 k e w = vcK P b112_7 k e w := rfl
abbrev b112_8 : X := (.seq (.reg [2] (.c (.q 20 [] (.mv (.t 0))) (.c (.q 21 [] (.len (.t 20))) (.c (.q 22 [] (.bin .geq (.t 21) (.c (.int .i64 1)))) (.c (.q 23 [] (.mv (.t 22))) (.c (.q 24 [(23, true)] (.mv (.t 0))) (.c (.q 25 [(23, true)] (.len (.t 24))) (.c (.q 26 [(23, true)] (.bin .leq (.t 25) (.c (.int .i64 10)))) (.c (.q 27 [] (.pick (.t 23) (.t 26) (.c (.bool false)))) (.c (.q 2 [] (.mv (.t 27))) .nil)))))))))) .ret)
def t112_8 := b112_8
theorem u112_8 : vcK P t112_8 k e w = vcK P b112_8 k e w := rfl
abbrev b112_9 : X := (.seq (.seq (.reg [0, 5, 6] (.c (.q 4 [] (.mv (.t 0))) (.c (.q 5 [] (.len (.t 4))) (.c (.q 6 [] (.mv (.c (.int .i64 0)))) .nil)))) t112_7) t112_8)
def t112_9 := b112_9
theorem u112_9 : vcK P t112_9 k e w = vcK P b112_9 k e w := rfl
abbrev b112_0 : X := (.seq (.reg [0] (.c (.q 2 [] (.mv (.c (.bool false)))) .nil)) t112_9)
def x_iisWord := b112_0
theorem u112_0 : vcK P x_iisWord k e w = vcK P b112_0 k e w := rfl
def r_iisWord : List XO := [(.mv (.t 2))]
theorem c_iisWord : convF Try.prog [38, 39, 41, 42, 49, 54, 55, 57, 58, 59, 73, 79, 81, 84, 87, 139] Try.f112 [([0], []), ([0, 5, 6], []), ([6], [0, 5]), ([0, 5, 6, 7], []), ([0, 3, 5, 6], []), ([0, 5, 6, 18], []), ([2], []), ([0, 5, 6], []), ([2], [])] = some (x_iisWord, r_iisWord) := by kernel_rfl
def us_iisWord :=  (aI (aI (aI @u112_0 @u112_1) (aI @u112_2 (aI @u112_3 @u112_4))) (aI (aI @u112_5 @u112_6) (aI @u112_7 (aI @u112_8 @u112_9))))
abbrev b101_1 : X := (.cond (.t 7) .skip (.exit 0))
def t101_1 := b101_1
theorem u101_1 : vcK P t101_1 k e w = vcK P b101_1 k e w := rfl
abbrev b101_2 : X := (.cond (.t 19) (.seq (.reg [2] (.c (.q 2 [] (.mv (.c (.bool false)))) .nil)) .ret) .skip)
def t101_2 := b101_2
theorem u101_2 : vcK P t101_2 k e w = vcK P b101_2 k e w := rfl
abbrev b101_3 : X := (.reg [0, 3] (.c (.q 8 [] (.mv (.t 3))) (.c (.q 9 [] (.bin .add (.t 8) (.c (.int .i64 1)))) (.c (.q 3 [] (.mv (.t 9))) .nil))))
def t101_3 := b101_3
theorem u101_3 : vcK P t101_3 k e w = vcK P b101_3 k e w := rfl
abbrev b101_4 : X := (.seq (.blk 1 (.seq (.reg [0, 3, 19] (.c (.q 10 [] (.mv (.t 0))) (.c (.q 11 [] (.mv (.t 3))) (.c (.q 12 [] (.idx (.t 10) (.t 11))) (.c (.q 13 [] (.bin .lss (.t 12) (.c (.int .u8 97)))) (.c (.q 14 [] (.mv (.t 13))) (.c (.q 15 [(14, false)] (.mv (.t 0))) (.c (.q 16 [(14, false)] (.mv (.t 3))) (.c (.q 17 [(14, false)] (.idx (.t 15) (.t 16))) (.c (.q 18 [(14, false)] (.bin .gtr (.t 17) (.c (.int .u8 122)))) (.c (.q 19 [] (.pick (.t 14) (.c (.bool true)) (.t 18))) .nil))))))))))) t101_2)) t101_3)
def t101_4 := b101_4
theorem u101_4 : vcK P t101_4 k e w = vcK P b101_4 k e w := rfl
abbrev b101_5 : X := (.seq (.seq (.reg [0, 3, 7] (.c (.q 4 [] (.mv (.t 3))) (.c (.q 5 [] (.mv (.t 0))) (.c (.q 6 [] (.len (.t 5))) (.c (.q 7 [] (.bin .lss (.t 4) (.t 6))) .nil))))) t101_1) t101_4)
def t101_5 := b101_5
theorem u101_5 : vcK P t101_5 k e w = vcK P b101_5 k e w := rfl
abbrev b101_6 : X := (.blk 0 (.loop [3] [0] t101_5))
def t101_6 := b101_6
theorem u101_6 : vcK P t101_6 k e w = vcK P b101_6 k e w := rfl
abbrev b101_7 : X := (.seq (.reg [2] (.c (.q 20 [] (.mv (.t 0))) (.c (.q 21 [] (.len (.t 20))) (.c (.e (some 22) [] (.call false 45 [(.t 21), (.c (.int .i64 1)), (.c (.int .i64 10))])) (.c (.q 2 [] (.mv (.t 22))) .nil))))) .ret)
def t101_7 := b101_7
theorem u101_7 : vcK P t101_7 k e w = vcK P b101_7 k e w := rfl
abbrev b101_8 : X := (.seq (.seq (.reg [0, 3] (.c (.q 3 [] (.mv (.c (.int .i64 0)))) .nil)) t101_6) t101_7)
def t101_8 := b101_8
theorem u101_8 : vcK P t101_8 k e w = vcK P b101_8 k e w := rfl
abbrev b101_0 : X := (.seq (.reg [0] (.c (.q 2 [] (.mv (.c (.bool false)))) .nil)) t101_8)
def x_sl4Name := b101_0
theorem u101_0 : vcK P x_sl4Name k e w = vcK P b101_0 k e w := rfl
def r_sl4Name : List XO := [(.mv (.t 2))]
theorem c_sl4Name : convF Try.prog [38, 39, 41, 42, 49, 54, 55, 57, 58, 59, 73, 79, 81, 84, 87, 139] Try.f101 [([0], []), ([0, 3], []), ([3], [0]), ([0, 3, 7], []), ([0, 3, 19], []), ([2], []), ([0, 3], []), ([2], [])] = some (x_sl4Name, r_sl4Name) := by kernel_rfl
def us_sl4Name :=  (aI (aI (aI @u101_0 @u101_1) (aI @u101_2 @u101_3)) (aI (aI @u101_4 @u101_5) (aI @u101_6 (aI @u101_7 @u101_8))))
abbrev b33_1 : X := (.cond (.t 14) (.seq (.reg [4] (.c (.q 4 [] (.mv (.c (.bool false)))) .nil)) .ret) .skip)
def t33_1 := b33_1
theorem u33_1 : vcK P t33_1 k e w = vcK P b33_1 k e w := rfl
abbrev b33_2 : X := (.cond (.t 24) (.seq (.reg [4] (.c (.q 4 [] (.mv (.c (.bool false)))) .nil)) .ret) .skip)
def t33_2 := b33_2
theorem u33_2 : vcK P t33_2 k e w = vcK P b33_2 k e w := rfl
abbrev b33_3 : X := (.seq (.reg [0, 15, 16, 17, 24] (.c (.q 21 [] (.mv (.t 0))) (.c (.q 22 [] (.mv (.t 6))) (.c (.e (some 23) [] (.call false 17 [(.t 21), (.t 22)])) (.c (.q 24 [] (.not (.t 23))) .nil))))) t33_2)
def t33_3 := b33_3
theorem u33_3 : vcK P t33_3 k e w = vcK P b33_3 k e w := rfl
abbrev b33_4 : X := (.reg [0, 15, 16, 17] (.c (.q 25 [] (.bin .add (.t 17) (.c (.int .i64 1)))) (.c (.q 17 [] (.mv (.t 25))) .nil)))
def t33_4 := b33_4
theorem u33_4 : vcK P t33_4 k e w = vcK P b33_4 k e w := rfl
abbrev b33_5 : X := (.seq (.blk 1 (.seq (.reg [0, 6, 15, 16, 17] (.c (.q 19 [] (.ia 1 (.t 15) (.t 17))) (.c (.q 20 [] (.ld (.t 19))) (.c (.q 6 [] (.mv (.t 20))) .nil)))) t33_3)) t33_4)
def t33_5 := b33_5
theorem u33_5 : vcK P t33_5 k e w = vcK P b33_5 k e w := rfl
abbrev b33_6 : X := (.seq (.cond (.t 18) .skip (.exit 0)) t33_5)
def t33_6 := b33_6
theorem u33_6 : vcK P t33_6 k e w = vcK P b33_6 k e w := rfl
abbrev b33_7 : X := (.seq (.reg [0, 15, 16, 17, 18] (.c (.q 18 [] (.bin .lss (.t 17) (.t 16))) .nil)) t33_6)
def t33_7 := b33_7
theorem u33_7 : vcK P t33_7 k e w = vcK P b33_7 k e w := rfl
abbrev b33_8 : X := (.blk 0 (.loop [17] [0, 15, 16] t33_7))
def t33_8 := b33_8
theorem u33_8 : vcK P t33_8 k e w = vcK P b33_8 k e w := rfl
abbrev b33_9 : X := (.seq (.reg [4] (.c (.q 4 [] (.mv (.c (.bool true)))) .nil)) .ret)
def t33_9 := b33_9
theorem u33_9 : vcK P t33_9 k e w = vcK P b33_9 k e w := rfl
abbrev b33_10 : X := (.seq (.seq (.reg [0, 15, 16, 17] (.c (.q 15 [] (.mv (.t 1))) (.c (.q 16 [] (.lens (.t 15))) (.c (.q 17 [] (.mv (.c (.int .i64 0)))) .nil)))) t33_8) t33_9)
def t33_10 := b33_10
theorem u33_10 : vcK P t33_10 k e w = vcK P b33_10 k e w := rfl
abbrev b33_11 : X := (.seq (.seq (.reg [0, 1, 14] (.c (.q 7 [] (.mv (.t 1))) (.c (.q 8 [] (.lens (.t 7))) (.c (.q 9 [] (.bin .lss (.t 8) (.c (.int .i64 1)))) (.c (.q 10 [] (.mv (.t 9))) (.c (.q 11 [(10, false)] (.mv (.t 1))) (.c (.q 12 [(10, false)] (.lens (.t 11))) (.c (.q 13 [(10, false)] (.bin .gtr (.t 12) (.c (.int .i64 40)))) (.c (.q 14 [] (.pick (.t 10) (.c (.bool true)) (.t 13))) .nil))))))))) t33_1) t33_10)
def t33_11 := b33_11
theorem u33_11 : vcK P t33_11 k e w = vcK P b33_11 k e w := rfl
abbrev b33_0 : X := (.seq (.reg [0, 1] (.c (.q 4 [] (.mv (.c (.bool false)))) .nil)) t33_11)
def x_iareChanges := b33_0
theorem u33_0 : vcK P x_iareChanges k e w = vcK P b33_0 k e w := rfl
def r_iareChanges : List XO := [(.mv (.t 4))]
theorem c_iareChanges : convF Try.prog [38, 39, 41, 42, 49, 54, 55, 57, 58, 59, 73, 79, 81, 84, 87, 139] Try.f33 [([0, 1], []), ([0, 1, 14], []), ([4], []), ([0, 15, 16, 17], []), ([17], [0, 15, 16]), ([0, 15, 16, 17, 18], []), ([0, 6, 15, 16, 17], []), ([0, 15, 16, 17, 24], []), ([4], []), ([0, 15, 16, 17], []), ([4], [])] = some (x_iareChanges, r_iareChanges) := by kernel_rfl
def us_iareChanges :=  (aI (aI (aI @u33_0 (aI @u33_1 @u33_2)) (aI @u33_3 (aI @u33_4 @u33_5))) (aI (aI @u33_6 (aI @u33_7 @u33_8)) (aI @u33_9 (aI @u33_10 @u33_11))))
abbrev b102_1 : X := (.seq (.reg [2] (.c (.q 3 [] (.fa 0 (.t 1))) (.c (.q 4 [] (.ld (.t 3))) (.c (.e (some 5) [] (.call false 112 [(.t 4)])) (.c (.q 6 [] (.mv (.t 5))) (.c (.q 7 [(6, true)] (.fa 1 (.t 1))) (.c (.q 8 [(6, true)] (.ld (.t 7))) (.c (.q 9 [(6, true)] (.fa 2 (.t 1))) (.c (.q 10 [(6, true)] (.ld (.t 9))) (.c (.e (some 11) [(6, true)] (.call false 33 [(.t 8), (.t 10)])) (.c (.q 12 [] (.pick (.t 6) (.t 11) (.c (.bool false)))) (.c (.q 2 [] (.mv (.t 12))) .nil)))))))))))) .ret)
def t102_1 := b102_1
theorem u102_1 : vcK P t102_1 k e w = vcK P b102_1 k e w := rfl
abbrev b102_0 : X := (.seq (.reg [1] (.c (.e (some 1) [] (.box 44 (.t 0))) (.c (.q 2 [] (.mv (.c (.bool false)))) .nil))) t102_1)
def x_iGoodMethod := b102_0
theorem u102_0 : vcK P x_iGoodMethod k e w = vcK P b102_0 k e w := rfl
def r_iGoodMethod : List XO := [(.mv (.t 2))]
theorem c_iGoodMethod : convF Try.prog [38, 39, 41, 42, 49, 54, 55, 57, 58, 59, 73, 79, 81, 84, 87, 139] Try.f102 [([1], []), ([2], [])] = some (x_iGoodMethod, r_iGoodMethod) := by kernel_rfl
def us_iGoodMethod :=  (aI @u102_0 @u102_1)
abbrev b86_1 : X := (.cond (.t 16) (.seq (.reg [2] (.c (.q 2 [] (.mv (.c (.bool false)))) .nil)) .ret) .skip)
def t86_1 := b86_1
theorem u86_1 : vcK P t86_1 k e w = vcK P b86_1 k e w := rfl
abbrev b86_2 : X := (.seq (.reg [1, 6, 7, 8, 16] (.c (.q 12 [] (.fa 1 (.t 1))) (.c (.q 13 [] (.ld (.t 12))) (.c (.q 14 [] (.mv (.t 4))) (.c (.e (some 15) [] (.call false 76 [(.t 13), (.t 14)])) (.c (.q 16 [] (.not (.t 15))) .nil)))))) t86_1)
def t86_2 := b86_2
theorem u86_2 : vcK P t86_2 k e w = vcK P b86_2 k e w := rfl
abbrev b86_3 : X := (.reg [1, 6, 7, 8] (.c (.q 17 [] (.bin .add (.t 8) (.c (.int .i64 1)))) (.c (.q 8 [] (.mv (.t 17))) .nil)))
def t86_3 := b86_3
theorem u86_3 : vcK P t86_3 k e w = vcK P b86_3 k e w := rfl
abbrev b86_4 : X := (.seq (.blk 1 (.seq (.reg [1, 4, 6, 7, 8] (.c (.q 10 [] (.ia 1 (.t 6) (.t 8))) (.c (.q 11 [] (.ld (.t 10))) (.c (.q 4 [] (.mv (.t 11))) .nil)))) t86_2)) t86_3)
def t86_4 := b86_4
theorem u86_4 : vcK P t86_4 k e w = vcK P b86_4 k e w := rfl
abbrev b86_5 : X := (.seq (.cond (.t 9) .skip (.exit 0)) t86_4)
def t86_5 := b86_5
theorem u86_5 : vcK P t86_5 k e w = vcK P b86_5 k e w := rfl
abbrev b86_6 : X := (.seq (.reg [1, 6, 7, 8, 9] (.c (.q 9 [] (.bin .lss (.t 8) (.t 7))) .nil)) t86_5)
def t86_6 := b86_6
theorem u86_6 : vcK P t86_6 k e w = vcK P b86_6 k e w := rfl
abbrev b86_7 : X := (.blk 0 (.loop [8] [1, 6, 7] t86_6))
def t86_7 := b86_7
theorem u86_7 : vcK P t86_7 k e w = vcK P b86_7 k e w := rfl
abbrev b86_8 : X := (.seq (.reg [2] (.c (.q 18 [] (.fa 0 (.t 1))) (.c (.q 19 [] (.ld (.t 18))) (.c (.e (some 20) [] (.call false 101 [(.t 19)])) (.c (.q 21 [] (.mv (.t 20))) (.c (.q 22 [(21, true)] (.fa 1 (.t 1))) (.c (.q 23 [(21, true)] (.ld (.t 22))) (.c (.e (some 24) [(21, true)] (.call false 45 [(.t 23), (.c (.int .i64 3)), (.c (.int .i64 8))])) (.c (.q 25 [] (.pick (.t 21) (.t 24) (.c (.bool false)))) (.c (.q 26 [] (.mv (.t 25))) (.c (.q 27 [(26, true)] (.fa 2 (.t 1))) (.c (.q 28 [(26, true)] (.ld (.t 27))) (.c (.q 29 [(26, true)] (.lens (.t 28))) (.c (.e (some 30) [(26, true)] (.call false 45 [(.t 29), (.c (.int .i64 1)), (.c (.int .i64 40))])) (.c (.q 31 [] (.pick (.t 26) (.t 30) (.c (.bool false)))) (.c (.q 2 [] (.mv (.t 31))) .nil)))))))))))))))) .ret)
def t86_8 := b86_8
theorem u86_8 : vcK P t86_8 k e w = vcK P b86_8 k e w := rfl
abbrev b86_9 : X := (.seq (.seq (.reg [1, 6, 7, 8] (.c (.q 5 [] (.fa 2 (.t 1))) (.c (.q 6 [] (.ld (.t 5))) (.c (.q 7 [] (.lens (.t 6))) (.c (.q 8 [] (.mv (.c (.int .i64 0)))) .nil))))) t86_7) t86_8)
def t86_9 := b86_9
theorem u86_9 : vcK P t86_9 k e w = vcK P b86_9 k e w := rfl
abbrev b86_0 : X := (.seq (.reg [1] (.c (.e (some 1) [] (.box 44 (.t 0))) (.c (.q 2 [] (.mv (.c (.bool false)))) .nil))) t86_9)
def x_sl4Good := b86_0
theorem u86_0 : vcK P x_sl4Good k e w = vcK P b86_0 k e w := rfl
def r_sl4Good : List XO := [(.mv (.t 2))]
theorem c_sl4Good : convF Try.prog [38, 39, 41, 42, 49, 54, 55, 57, 58, 59, 73, 79, 81, 84, 87, 139] Try.f86 [([1], []), ([1, 6, 7, 8], []), ([8], [1, 6, 7]), ([1, 6, 7, 8, 9], []), ([1, 4, 6, 7, 8], []), ([1, 6, 7, 8, 16], []), ([2], []), ([1, 6, 7, 8], []), ([2], [])] = some (x_sl4Good, r_sl4Good) := by kernel_rfl
def us_sl4Good :=  (aI (aI (aI @u86_0 @u86_1) (aI @u86_2 (aI @u86_3 @u86_4))) (aI (aI @u86_5 @u86_6) (aI @u86_7 (aI @u86_8 @u86_9))))
abbrev b105_1 : X := (.reg [0, 5, 10, 11, 12] (.c (.q 19 [] (.mv (.t 5))) (.c (.q 20 [] (.mv (.t 0))) (.c (.e (some 21) [] (.bsl 9 1 [(.t 20)])) (.c (.e (some 22) [] (.app 24 9 1 16 [(S [])] 24 (.t 19) (.t 21))) (.c (.q 5 [] (.mv (.t 22))) .nil))))))
def t105_1 := b105_1
theorem u105_1 : vcK P t105_1 k e w = vcK P b105_1 k e w := rfl
abbrev b105_2 : X := (.seq (.reg [0, 5, 10, 11, 12] (.c (.q 16 [] (.mv (.t 0))) (.c (.q 17 [] (.mv (.t 7))) (.c (.e (some 18) [] (.call false 114 [(.t 16), (.t 17)])) (.c (.q 0 [] (.mv (.t 18))) .nil))))) t105_1)
def t105_2 := b105_2
theorem u105_2 : vcK P t105_2 k e w = vcK P b105_2 k e w := rfl
abbrev b105_3 : X := (.reg [0, 5, 10, 11, 12] (.c (.q 23 [] (.bin .add (.t 12) (.c (.int .i64 1)))) (.c (.q 12 [] (.mv (.t 23))) .nil)))
def t105_3 := b105_3
theorem u105_3 : vcK P t105_3 k e w = vcK P b105_3 k e w := rfl
abbrev b105_4 : X := (.seq (.blk 1 (.seq (.reg [0, 5, 7, 10, 11, 12] (.c (.q 14 [] (.ia 1 (.t 10) (.t 12))) (.c (.q 15 [] (.ld (.t 14))) (.c (.q 7 [] (.mv (.t 15))) .nil)))) t105_2)) t105_3)
def t105_4 := b105_4
theorem u105_4 : vcK P t105_4 k e w = vcK P b105_4 k e w := rfl
abbrev b105_5 : X := (.seq (.cond (.t 13) .skip (.exit 0)) t105_4)
def t105_5 := b105_5
theorem u105_5 : vcK P t105_5 k e w = vcK P b105_5 k e w := rfl
abbrev b105_6 : X := (.seq (.reg [0, 5, 10, 11, 12, 13] (.c (.q 13 [] (.bin .lss (.t 12) (.t 11))) .nil)) t105_5)
def t105_6 := b105_6
theorem u105_6 : vcK P t105_6 k e w = vcK P b105_6 k e w := rfl
abbrev b105_7 : X := (.blk 0 (.loop [0, 5, 12] [10, 11] t105_6))
def t105_7 := b105_7
theorem u105_7 : vcK P t105_7 k e w = vcK P b105_7 k e w := rfl
abbrev b105_8 : X := (.seq (.reg [4] (.c (.q 24 [] (.mv (.t 5))) (.c (.q 4 [] (.mv (.t 24))) .nil))) .ret)
def t105_8 := b105_8
theorem u105_8 : vcK P t105_8 k e w = vcK P b105_8 k e w := rfl
abbrev b105_9 : X := (.seq (.seq (.reg [0, 5, 10, 11, 12] (.c (.q 10 [] (.mv (.t 1))) (.c (.q 11 [] (.lens (.t 10))) (.c (.q 12 [] (.mv (.c (.int .i64 0)))) .nil)))) t105_7) t105_8)
def t105_9 := b105_9
theorem u105_9 : vcK P t105_9 k e w = vcK P b105_9 k e w := rfl
abbrev b105_10 : X := (.seq (.reg [0, 1, 5] (.c (.q 8 [] (.mv (.t 0))) (.c (.e (some 9) [] (.bsl 9 1 [(.t 8)])) (.c (.q 5 [] (.mv (.t 9))) .nil)))) t105_9)
def t105_10 := b105_10
theorem u105_10 : vcK P t105_10 k e w = vcK P b105_10 k e w := rfl
abbrev b105_0 : X := (.seq (.reg [0, 1] (.c (.q 4 [] (.mv (.c (.slice none 0 0)))) .nil)) t105_10)
def x_irowsUnder := b105_0
theorem u105_0 : vcK P x_irowsUnder k e w = vcK P b105_0 k e w := rfl
def r_irowsUnder : List XO := [(.mv (.t 4))]
theorem c_irowsUnder : convF Try.prog [38, 39, 41, 42, 49, 54, 55, 57, 58, 59, 73, 79, 81, 84, 87, 139] Try.f105 [([0, 1], []), ([0, 1, 5], []), ([0, 5, 10, 11, 12], []), ([0, 5, 12], [10, 11]), ([0, 5, 10, 11, 12, 13], []), ([0, 5, 7, 10, 11, 12], []), ([0, 5, 10, 11, 12], []), ([0, 5, 10, 11, 12], []), ([0, 5, 10, 11, 12], []), ([4], [])] = some (x_irowsUnder, r_irowsUnder) := by kernel_rfl
def us_irowsUnder :=  (aI (aI (aI @u105_0 @u105_1) (aI @u105_2 (aI @u105_3 @u105_4))) (aI (aI @u105_5 (aI @u105_6 @u105_7)) (aI @u105_8 (aI @u105_9 @u105_10))))
abbrev b103_1 : X := (.seq (.reg [2] (.c (.q 10 [] (.mv (.t 3))) (.c (.q 11 [] (.mv (.t 3))) (.c (.q 12 [] (.lens (.t 11))) (.c (.q 13 [] (.bin .sub (.t 12) (.c (.int .i64 1)))) (.c (.q 14 [] (.ia 1 (.t 10) (.t 13))) (.c (.q 15 [] (.ld (.t 14))) (.c (.q 2 [] (.mv (.t 15))) .nil)))))))) .ret)
def t103_1 := b103_1
theorem u103_1 : vcK P t103_1 k e w = vcK P b103_1 k e w := rfl
abbrev b103_2 : X := (.seq (.drw [3] (.c (.q 4 [] (.fa 1 (.t 1))) (.c (.q 5 [] (.ld (.t 4))) (.c (.q 7 [] (.fa 2 (.t 1))) (.c (.q 8 [] (.ld (.t 7))) (.c (.e (some 6) [] (.call false 44 [(.t 5)])) (.c (.e (some 9) [] (.call false 105 [(.t 6), (.t 8)])) (.c (.q 3 [] (.mv (.t 9))) .nil)))))))) t103_1)
def t103_2 := b103_2
theorem u103_2 : vcK P t103_2 k e w = vcK P b103_2 k e w := rfl
abbrev b103_0 : X := (.seq (.reg [1] (.c (.e (some 1) [] (.box 44 (.t 0))) (.c (.q 2 [] (.mv (.s []))) .nil))) t103_2)
def x_ileadHead := b103_0
theorem u103_0 : vcK P x_ileadHead k e w = vcK P b103_0 k e w := rfl
def r_ileadHead : List XO := [(.mv (.t 2))]
theorem c_ileadHead : convF Try.prog [38, 39, 41, 42, 49, 54, 55, 57, 58, 59, 73, 79, 81, 84, 87, 139] Try.f103 [([1], []), ([3], []), ([2], [])] = some (x_ileadHead, r_ileadHead) := by kernel_rfl
def us_ileadHead :=  (aI @u103_0 (aI @u103_1 @u103_2))
abbrev b95_1 : X := (.reg [6, 7, 11, 12, 13] (.c (.q 21 [] (.mv (.t 7))) (.c (.q 22 [] (.mv (.t 9))) (.c (.e (some 23) [] (.call false 108 [(.t 21), (.t 22)])) (.c (.q 7 [] (.mv (.t 23))) .nil)))))
def t95_1 := b95_1
theorem u95_1 : vcK P t95_1 k e w = vcK P b95_1 k e w := rfl
abbrev b95_2 : X := (.seq (.reg [6, 7, 9, 11, 12, 13] (.c (.q 17 [] (.mv (.t 6))) (.c (.q 18 [] (.mv (.t 7))) (.c (.e (some 19) [] (.bsl 9 1 [(.t 18)])) (.c (.e (some 20) [] (.app 24 9 1 16 [(S [])] 24 (.t 17) (.t 19))) (.c (.q 6 [] (.mv (.t 20))) .nil)))))) t95_1)
def t95_2 := b95_2
theorem u95_2 : vcK P t95_2 k e w = vcK P b95_2 k e w := rfl
abbrev b95_3 : X := (.reg [6, 7, 11, 12, 13] (.c (.q 24 [] (.bin .add (.t 13) (.c (.int .i64 1)))) (.c (.q 13 [] (.mv (.t 24))) .nil)))
def t95_3 := b95_3
theorem u95_3 : vcK P t95_3 k e w = vcK P b95_3 k e w := rfl
abbrev b95_4 : X := (.seq (.blk 1 (.seq (.reg [6, 7, 9, 11, 12, 13] (.c (.q 15 [] (.ia 1 (.t 11) (.t 13))) (.c (.q 16 [] (.ld (.t 15))) (.c (.q 9 [] (.mv (.t 16))) .nil)))) t95_2)) t95_3)
def t95_4 := b95_4
theorem u95_4 : vcK P t95_4 k e w = vcK P b95_4 k e w := rfl
abbrev b95_5 : X := (.seq (.cond (.t 14) .skip (.exit 0)) t95_4)
def t95_5 := b95_5
theorem u95_5 : vcK P t95_5 k e w = vcK P b95_5 k e w := rfl
abbrev b95_6 : X := (.seq (.reg [6, 7, 11, 12, 13, 14] (.c (.q 14 [] (.bin .lss (.t 13) (.t 12))) .nil)) t95_5)
def t95_6 := b95_6
theorem u95_6 : vcK P t95_6 k e w = vcK P b95_6 k e w := rfl
abbrev b95_7 : X := (.blk 0 (.loop [6, 7, 13] [11, 12] t95_6))
def t95_7 := b95_7
theorem u95_7 : vcK P t95_7 k e w = vcK P b95_7 k e w := rfl
abbrev b95_8 : X := (.seq (.reg [4, 5] (.c (.q 25 [] (.mv (.t 6))) (.c (.q 26 [] (.mv (.t 7))) (.c (.q 4 [] (.mv (.t 25))) (.c (.q 5 [] (.mv (.t 26))) .nil))))) .ret)
def t95_8 := b95_8
theorem u95_8 : vcK P t95_8 k e w = vcK P b95_8 k e w := rfl
abbrev b95_9 : X := (.seq (.seq (.reg [6, 7, 11, 12, 13] (.c (.q 11 [] (.mv (.t 0))) (.c (.q 12 [] (.lens (.t 11))) (.c (.q 13 [] (.mv (.c (.int .i64 0)))) .nil)))) t95_7) t95_8)
def t95_9 := b95_9
theorem u95_9 : vcK P t95_9 k e w = vcK P b95_9 k e w := rfl
abbrev b95_10 : X := (.seq (.reg [0, 6, 7] (.c (.q 10 [] (.mv (.t 1))) (.c (.q 7 [] (.mv (.t 10))) .nil))) t95_9)
def t95_10 := b95_10
theorem u95_10 : vcK P t95_10 k e w = vcK P b95_10 k e w := rfl
abbrev b95_11 : X := (.seq (.reg [0, 1, 6] (.c (.q 6 [] (.mv (.c (.slice none 0 0)))) .nil)) t95_10)
def t95_11 := b95_11
theorem u95_11 : vcK P t95_11 k e w = vcK P b95_11 k e w := rfl
abbrev b95_0 : X := (.seq (.reg [0, 1] (.c (.q 4 [] (.mv (.c (.slice none 0 0)))) (.c (.q 5 [] (.mv (.s []))) .nil))) t95_11)
def x_sl4Lead := b95_0
theorem u95_0 : vcK P x_sl4Lead k e w = vcK P b95_0 k e w := rfl
def r_sl4Lead : List XO := [(.mv (.t 4)), (.mv (.t 5))]
theorem c_sl4Lead : convF Try.prog [38, 39, 41, 42, 49, 54, 55, 57, 58, 59, 73, 79, 81, 84, 87, 139] Try.f95 [([0, 1], []), ([0, 1, 6], []), ([0, 6, 7], []), ([6, 7, 11, 12, 13], []), ([6, 7, 13], [11, 12]), ([6, 7, 11, 12, 13, 14], []), ([6, 7, 9, 11, 12, 13], []), ([6, 7, 9, 11, 12, 13], []), ([6, 7, 11, 12, 13], []), ([6, 7, 11, 12, 13], []), ([4, 5], [])] = some (x_sl4Lead, r_sl4Lead) := by kernel_rfl
def us_sl4Lead :=  (aI (aI (aI @u95_0 (aI @u95_1 @u95_2)) (aI @u95_3 (aI @u95_4 @u95_5))) (aI (aI @u95_6 (aI @u95_7 @u95_8)) (aI @u95_9 (aI @u95_10 @u95_11))))
end
/-- A method's cells. -/
def fM (nm : List UInt8) (st : Int) (x : Value) : List Value := [S nm, .int .i64 st, x]
/-- A method's value: its changes are the slice x. -/
abbrev mV (nm : List UInt8) (st : Int) (x : Value) : Value := .agg ⟨fM nm st x⟩
theorem fMg (nm : List UInt8) (st : Int) (x : Value) : (∀ v, (fM nm st x).getD 0 v = S nm) ∧ (∀ v, (fM nm st x).getD 1 v = .int .i64 st) ∧ (∀ v, (fM nm st x).getD 2 v = x) ∧ (fM nm st x).length = 3 := ⟨fun _ => rfl, fun _ => rfl, fun _ => rfl, rfl⟩
theorem fM_one (nm : List UInt8) (st : Int) (x : Value) (h : x.oneCell' = true) : ∀ u ∈ fM nm st x, u.oneCell' = true := fun u hu => by
  simp only [fM, List.mem_cons, List.not_mem_nil, or_false] at hu
  rcases hu with rfl | rfl | rfl
  · rfl
  · rfl
  · exact h
theorem Sq.one' {α : Type} {f : α → List Value} {z : Nat} {w : World} {v : Value} {l : List α} (h : Sq f z w v l) : v.oneCell' = true := by
  rcases h.2.2 with ⟨rfl, _⟩ | ⟨a, c, rfl, _⟩ <;> rfl
def WordUp (l : List UInt8) (k : Nat) : Prop := ∀ i < k, 97 ≤ (l.getD i 0).toNat ∧ (l.getD i 0).toNat ≤ 122
instance (l : List UInt8) (k : Nat) : Decidable (WordUp l k) := by unfold WordUp; infer_instance
theorem WordUp.succ {l : List UInt8} {k : Nat} (h : WordUp l k) (h1 : 97 ≤ (l.getD k 0).toNat ∧ (l.getD k 0).toNat ≤ 122) : WordUp l (k + 1) := fun i hi => by
  by_cases he : i = k
  · subst he; exact h1
  · exact h i (by omega)
def IsWord (l : List UInt8) : Prop := WordUp l l.length ∧ 1 ≤ l.length ∧ l.length ≤ 10
instance (l : List UInt8) : Decidable (IsWord l) := by unfold IsWord; infer_instance
/-- A valid method. -/
def IsMethod (nm : List UInt8) (st : Int) (cs : List (List UInt8)) : Prop := IsWord nm ∧ (3 ≤ st ∧ st ≤ 8) ∧ (1 ≤ cs.length ∧ cs.length ≤ 40) ∧ ∀ c ∈ cs, IsChange st c
instance (nm : List UInt8) (st : Int) (cs : List (List UInt8)) : Decidable (IsMethod nm st cs) := by unfold IsMethod; infer_instance
theorem iisWord_ok (l : List UInt8) (hl : l.length ≤ 1048576) (w : World) : Fn 112 [S l] w (fun v _ => v = .bool (decide (IsWord l))) := by
  (refine callsV_of mix Try.func112 c_iisWord ?_; simp only [↓vsd, vsn, gW, qd, qv, ev, pick, argE, zipE, ne_eq, eq_self, forall_const, implies_true, if_true, if_false, reduceIte, reduceCtorEq, Nat.reduceEqDiff, Nat.reduceAdd, Nat.reduceLT, ↓us_iisWord, r_iisWord])
  refine m_upto l.length (fun k vs w' => vs = [.int .i64 k] ∧ WordUp l k ∧ Ext w w') ⟨rfl, fun i hi => absurd hi (Nat.not_lt_zero i), Ext.refl _⟩ ?_
  rintro k vs w1 hk ⟨rfl, hup, hx⟩
  by_cases hlt : k < l.length
  · have hltI : (k : Int) < l.length := by omega
    have hltJ : ¬ (l.length : Int) ≤ k := by omega
    simp only [↓vsd, vsn, gW, qd, qv, ev, pick, argE, zipE, ne_eq, eq_self, forall_const, implies_true, if_true, if_false, reduceIte, reduceCtorEq, Nat.reduceEqDiff, Nat.reduceAdd, Nat.reduceLT, ↓us_iisWord, r_iisWord, hltI, hltJ]
    have hcl := (l.getD k 0).toNat_lt
    refine ⟨by omega, fun _ => by omega, fun hbad => ⟨hx, ?_⟩, fun hgood => ⟨inR_i64 (by omega), UpTo.next hlt ⟨rfl, hup.succ (by omega), hx⟩⟩⟩
    have : ¬ IsWord l := fun h => by have := h.1 k hlt; omega
    simp only [this, decide_false]
  · obtain rfl : k = l.length := by omega
    have hltI : ¬ (l.length : Int) < l.length := by omega
    simp only [↓vsd, vsn, gW, qd, qv, ev, pick, argE, zipE, ne_eq, eq_self, forall_const, implies_true, if_true, if_false, reduceIte, reduceCtorEq, Nat.reduceEqDiff, Nat.reduceAdd, Nat.reduceLT, ↓us_iisWord, r_iisWord, hltI]
    refine ⟨hx, ?_⟩
    rw [← Bool.decide_and]
    congr 1
    exact propext ⟨fun h => ⟨hup, by omega, by omega⟩, fun h => ⟨by have := h.2.1; omega, by have := h.2.2; omega⟩⟩
theorem sl4Name_ok (l : List UInt8) (hl : l.length ≤ 1048576) (w : World) : Fn 101 [S l] w (fun v _ => v = .bool (decide (IsWord l))) := by
  (refine callsV_of mix Try.func101 c_sl4Name ?_; simp only [↓vsd, vsn, gW, qd, qv, ev, pick, argE, zipE, ne_eq, eq_self, forall_const, implies_true, if_true, if_false, reduceIte, reduceCtorEq, Nat.reduceEqDiff, Nat.reduceAdd, Nat.reduceLT, ↓us_sl4Name, r_sl4Name])
  refine m_upto l.length (fun k vs w' => vs = [.int .i64 k] ∧ WordUp l k ∧ Ext w w') ⟨rfl, fun i hi => absurd hi (Nat.not_lt_zero i), Ext.refl _⟩ ?_
  rintro k vs w1 hk ⟨rfl, hup, hx⟩
  by_cases hlt : k < l.length
  · have hltI : (k : Int) < l.length := by omega
    have hltJ : ¬ (l.length : Int) ≤ k := by omega
    simp only [↓vsd, vsn, gW, qd, qv, ev, pick, argE, zipE, ne_eq, eq_self, forall_const, implies_true, if_true, if_false, reduceIte, reduceCtorEq, Nat.reduceEqDiff, Nat.reduceAdd, Nat.reduceLT, ↓us_sl4Name, r_sl4Name, hltI, hltJ]
    have hcl := (l.getD k 0).toNat_lt
    refine ⟨by omega, fun _ => by omega, fun hbad => ⟨hx, ?_⟩, fun hgood => ⟨inR_i64 (by omega), UpTo.next hlt ⟨rfl, hup.succ (by omega), hx⟩⟩⟩
    have : ¬ IsWord l := fun h => by have := h.1 k hlt; omega
    simp only [this, decide_false]
  · obtain rfl : k = l.length := by omega
    have hltI : ¬ (l.length : Int) < l.length := by omega
    simp only [↓vsd, vsn, gW, qd, qv, ev, pick, argE, zipE, ne_eq, eq_self, forall_const, implies_true, if_true, if_false, reduceIte, reduceCtorEq, Nat.reduceEqDiff, Nat.reduceAdd, Nat.reduceLT, ↓us_sl4Name, r_sl4Name, hltI]
    refine m_call (sl1In_ok _ _ _ _) ?_
    rintro _ w2 hx2 rfl
    simp only [↓vsd, vsn, gW, qd, qv, ev, pick, argE, zipE, ne_eq, eq_self, forall_const, implies_true, if_true, if_false, reduceIte, reduceCtorEq, Nat.reduceEqDiff, Nat.reduceAdd, Nat.reduceLT, ↓us_sl4Name, r_sl4Name]
    refine ⟨hx.trans hx2, ?_⟩
    rw [← Bool.decide_and]
    congr 1
    exact propext ⟨fun h => ⟨hup, by omega, by omega⟩, fun h => ⟨by have := h.2.1; omega, by have := h.2.2; omega⟩⟩
theorem iareChanges_ok (n : Int) (v : Value) (cs : List (List UInt8)) (hs : ∀ c ∈ cs, c.length ≤ 1048576) (hl : cs.length ≤ 1000000000) (w : World) (h : Sq fS 1 w v cs) : Fn 33 [.int .i64 n, v] w (fun r _ => r = .bool (decide ((1 ≤ cs.length ∧ cs.length ≤ 40) ∧ ∀ c ∈ cs, IsChange n c))) := by
  (refine callsV_of mix Try.func33 c_iareChanges ?_; simp only [↓vsd, vsn, gW, qd, qv, ev, pick, argE, zipE, ne_eq, eq_self, forall_const, implies_true, if_true, if_false, reduceIte, reduceCtorEq, Nat.reduceEqDiff, Nat.reduceAdd, Nat.reduceLT, ↓us_iareChanges, r_iareChanges])
  simp only [↓vsd, vsn, gW, qd, qv, ev, pick, argE, zipE, ne_eq, eq_self, forall_const, implies_true, if_true, if_false, reduceIte, reduceCtorEq, Nat.reduceEqDiff, Nat.reduceAdd, Nat.reduceLT, ↓us_iareChanges, r_iareChanges, h.facts]
  refine ⟨fun hbad => ⟨Ext.refl _, ?_⟩, fun hgood => ?_⟩
  · have : ¬ ((1 ≤ cs.length ∧ cs.length ≤ 40) ∧ ∀ c ∈ cs, IsChange n c) := fun hh => by have := hh.1; omega
    simp only [this, decide_false]
  refine m_upto cs.length (fun k vs w' => vs = [.int .i64 k] ∧ (∀ c ∈ cs.take k, IsChange n c) ∧ Ext w w') ⟨rfl, by simp, Ext.refl _⟩ ?_
  rintro k vs w1 hk ⟨rfl, hall, hx⟩
  have hq := h.ext hx
  by_cases hlt : k < cs.length
  · have hltI : (k : Int) < cs.length := by omega
    have hltJ : ¬ (cs.length : Int) ≤ k := by omega
    simp only [↓vsd, vsn, gW, qd, qv, ev, pick, argE, zipE, ne_eq, eq_self, forall_const, implies_true, if_true, if_false, reduceIte, reduceCtorEq, Nat.reduceEqDiff, Nat.reduceAdd, Nat.reduceLT, ↓us_iareChanges, r_iareChanges, hq.facts, hq.at1 [] hlt, hltI, hltJ]
    refine ⟨by omega, m_call (iGoodChange_ok n _ (hs _ (getD_mem [] hlt)) _) ?_⟩
    rintro _ w2 hx2 rfl
    simp only [↓vsd, vsn, gW, qd, qv, ev, pick, argE, zipE, ne_eq, eq_self, forall_const, implies_true, if_true, if_false, reduceIte, reduceCtorEq, Nat.reduceEqDiff, Nat.reduceAdd, Nat.reduceLT, ↓us_iareChanges, r_iareChanges]
    refine ⟨fun hbad => ⟨hx.trans hx2, ?_⟩, fun hg => ⟨inR_i64 (by omega), UpTo.next hlt ⟨rfl, fun c hc => ?_, hx.trans hx2⟩⟩⟩
    · have : ¬ ((1 ≤ cs.length ∧ cs.length ≤ 40) ∧ ∀ c ∈ cs, IsChange n c) := fun hh => hbad (hh.2 _ (getD_mem [] hlt))
      simp only [this, decide_false]
    · rcases mem_take (d := []) hlt hc with h | rfl
      · exact hall c h
      · exact hg
  · obtain rfl : k = cs.length := by omega
    have hltI : ¬ (cs.length : Int) < cs.length := by omega
    simp only [↓vsd, vsn, gW, qd, qv, ev, pick, argE, zipE, ne_eq, eq_self, forall_const, implies_true, if_true, if_false, reduceIte, reduceCtorEq, Nat.reduceEqDiff, Nat.reduceAdd, Nat.reduceLT, ↓us_iareChanges, r_iareChanges, hltI]
    rw [List.take_length] at hall
    exact ⟨hx, by simp only [decide_eq_true (show (1 ≤ cs.length ∧ cs.length ≤ 40) ∧ ∀ c ∈ cs, IsChange n c from ⟨by omega, hall⟩)]⟩
theorem iGoodMethod_ok (nm : List UInt8) (st : Int) (v : Value) (cs : List (List UInt8)) (hnm : nm.length ≤ 1048576) (hs : ∀ c ∈ cs, c.length ≤ 1048576) (hl : cs.length ≤ 1000000000) (w : World) (h : Sq fS 1 w v cs) : Fn 102 [mV nm st v] w (fun r _ => r = .bool (decide (IsMethod nm st cs))) := by
  (refine callsV_of mix Try.func102 c_iGoodMethod ?_; simp only [↓vsd, vsn, gW, qd, qv, ev, pick, argE, zipE, ne_eq, eq_self, forall_const, implies_true, if_true, if_false, reduceIte, reduceCtorEq, Nat.reduceEqDiff, Nat.reduceAdd, Nat.reduceLT, ↓us_iGoodMethod, r_iGoodMethod])
  refine m_al ?_
  rintro b w1 hb hblk hx1 hs1
  have h1 : Blk w1 b (fM nm st v) 44 := hblk
  have hq1 := h.ext hx1
  simp only [↓vsd, vsn, gW, qd, qv, ev, pick, argE, zipE, ne_eq, eq_self, forall_const, implies_true, if_true, if_false, reduceIte, reduceCtorEq, Nat.reduceEqDiff, Nat.reduceAdd, Nat.reduceLT, ↓us_iGoodMethod, r_iGoodMethod, h1.facts, fMg]
  refine m_call (iisWord_ok nm (by omega) _) ?_
  rintro _ w2 hx2 rfl
  have h2 := h1.ext hx2
  simp only [↓vsd, vsn, gW, qd, qv, ev, pick, argE, zipE, ne_eq, eq_self, forall_const, implies_true, if_true, if_false, reduceIte, reduceCtorEq, Nat.reduceEqDiff, Nat.reduceAdd, Nat.reduceLT, ↓us_iGoodMethod, r_iGoodMethod, h2.facts, fMg]
  have hx12 := hx1.trans hx2
  refine ⟨fun hw => ?_, fun hw => ⟨hx12, ?_⟩⟩
  · refine m_call (iareChanges_ok st v cs hs hl _ (h.ext hx12)) ?_
    rintro _ w3 hx3 rfl
    simp only [↓vsd, vsn, gW, qd, qv, ev, pick, argE, zipE, ne_eq, eq_self, forall_const, implies_true, if_true, if_false, reduceIte, reduceCtorEq, Nat.reduceEqDiff, Nat.reduceAdd, Nat.reduceLT, ↓us_iGoodMethod, r_iGoodMethod]
    refine ⟨hx12.trans hx3, ?_⟩
    rw [← Bool.decide_and]
    congr 1
    refine propext ⟨fun hh => ⟨hw, ?_, hh.2.1, hh.2.2⟩, fun hh => ⟨hw, hh.2.2.1, hh.2.2.2⟩⟩
    exact (hh.2.2 _ (getD_mem [] (show 0 < cs.length by have := hh.2.1; omega))).1
  · have : ¬ IsMethod nm st cs := fun hh => hw hh.1
    simp only [this, decide_false]
theorem sl4Good_ok (nm : List UInt8) (st : Int) (v : Value) (cs : List (List UInt8)) (hnm : nm.length ≤ 1048576) (hs : ∀ c ∈ cs, c.length ≤ 1048576) (hl : cs.length ≤ 1000000000) (w : World) (h : Sq fS 1 w v cs) : Fn 86 [mV nm st v] w (fun r _ => r = .bool (decide (IsMethod nm st cs))) := by
  (refine callsV_of mix Try.func86 c_sl4Good ?_; simp only [↓vsd, vsn, gW, qd, qv, ev, pick, argE, zipE, ne_eq, eq_self, forall_const, implies_true, if_true, if_false, reduceIte, reduceCtorEq, Nat.reduceEqDiff, Nat.reduceAdd, Nat.reduceLT, ↓us_sl4Good, r_sl4Good])
  refine m_al ?_
  rintro b w1 hb hblk hx1 hs1
  have h1 : Blk w1 b (fM nm st v) 44 := hblk
  have hq1 := h.ext hx1
  simp only [↓vsd, vsn, gW, qd, qv, ev, pick, argE, zipE, ne_eq, eq_self, forall_const, implies_true, if_true, if_false, reduceIte, reduceCtorEq, Nat.reduceEqDiff, Nat.reduceAdd, Nat.reduceLT, ↓us_sl4Good, r_sl4Good, h1.facts, fMg, hq1.facts]
  refine m_upto cs.length (fun k vs w' => vs = [.int .i64 k] ∧ (∀ c ∈ cs.take k, IsChange st c) ∧ Ext w1 w') ⟨rfl, by simp, Ext.refl _⟩ ?_
  rintro k vs w2 hk ⟨rfl, hall, hx⟩
  have hq := hq1.ext hx
  have h2 := h1.ext hx
  have hx2 := hx1.trans hx
  by_cases hlt : k < cs.length
  · have hltI : (k : Int) < cs.length := by omega
    have hltJ : ¬ (cs.length : Int) ≤ k := by omega
    simp only [↓vsd, vsn, gW, qd, qv, ev, pick, argE, zipE, ne_eq, eq_self, forall_const, implies_true, if_true, if_false, reduceIte, reduceCtorEq, Nat.reduceEqDiff, Nat.reduceAdd, Nat.reduceLT, ↓us_sl4Good, r_sl4Good, hq.facts, hq.at1 [] hlt, hltI, hltJ, h2.facts, fMg]
    refine ⟨by omega, m_call (sl2Change_ok st _ (hs _ (getD_mem [] hlt)) _) ?_⟩
    rintro _ w3 hx3 rfl
    simp only [↓vsd, vsn, gW, qd, qv, ev, pick, argE, zipE, ne_eq, eq_self, forall_const, implies_true, if_true, if_false, reduceIte, reduceCtorEq, Nat.reduceEqDiff, Nat.reduceAdd, Nat.reduceLT, ↓us_sl4Good, r_sl4Good]
    refine ⟨fun hbad => ⟨hx2.trans hx3, ?_⟩, fun hg => ⟨inR_i64 (by omega), UpTo.next hlt ⟨rfl, fun c hc => ?_, hx.trans hx3⟩⟩⟩
    · have : ¬ IsMethod nm st cs := fun hh => hbad (hh.2.2.2 _ (getD_mem [] hlt))
      simp only [this, decide_false]
    · rcases mem_take (d := []) hlt hc with h | rfl
      · exact hall c h
      · exact hg
  · obtain rfl : k = cs.length := by omega
    have hltI : ¬ (cs.length : Int) < cs.length := by omega
    simp only [↓vsd, vsn, gW, qd, qv, ev, pick, argE, zipE, ne_eq, eq_self, forall_const, implies_true, if_true, if_false, reduceIte, reduceCtorEq, Nat.reduceEqDiff, Nat.reduceAdd, Nat.reduceLT, ↓us_sl4Good, r_sl4Good, hltI, h2.facts, fMg]
    rw [List.take_length] at hall
    refine m_call (sl4Name_ok nm (by omega) _) ?_
    rintro _ w3 hx3 rfl
    have h3 := h2.ext hx3
    simp only [↓vsd, vsn, gW, qd, qv, ev, pick, argE, zipE, ne_eq, eq_self, forall_const, implies_true, if_true, if_false, reduceIte, reduceCtorEq, Nat.reduceEqDiff, Nat.reduceAdd, Nat.reduceLT, ↓us_sl4Good, r_sl4Good, h3.facts, fMg]
    refine ⟨fun hw => ?_, fun hw => ?_⟩
    · refine m_call (sl1In_ok _ _ _ _) ?_
      rintro _ w4 hx4 rfl
      have h4 := h3.ext hx4
      have hq4 := (hq.ext hx3).ext hx4
      simp only [↓vsd, vsn, gW, qd, qv, ev, pick, argE, zipE, ne_eq, eq_self, forall_const, implies_true, if_true, if_false, reduceIte, reduceCtorEq, Nat.reduceEqDiff, Nat.reduceAdd, Nat.reduceLT, ↓us_sl4Good, r_sl4Good, h4.facts, fMg, hq4.facts]
      refine ⟨fun hh => ?_, fun hh => ⟨((hx2.trans hx3).trans hx4), ?_⟩⟩
      · refine m_call (sl1In_ok _ _ _ _) ?_
        rintro _ w5 hx5 rfl
        simp only [↓vsd, vsn, gW, qd, qv, ev, pick, argE, zipE, ne_eq, eq_self, forall_const, implies_true, if_true, if_false, reduceIte, reduceCtorEq, Nat.reduceEqDiff, Nat.reduceAdd, Nat.reduceLT, ↓us_sl4Good, r_sl4Good]
        refine ⟨((hx2.trans hx3).trans hx4).trans hx5, ?_⟩
        simp only [← Bool.decide_and]
        congr 1
        exact propext ⟨fun h5 => ⟨hh.1, hh.2, by omega, hall⟩, fun h5 => ⟨hh, by have := h5.2.2.1; omega⟩⟩
      · have : ¬ IsMethod nm st cs := fun h5 => hh ⟨h5.1, h5.2.1⟩
        simp only [this, decide_false]
    · have : ¬ IsMethod nm st cs := fun h5 => hw h5.1
      exact ⟨hx2.trans hx3, by simp only [this, decide_false]⟩
/-- A row and the rows under the first changes. -/
def rowsU (l : List UInt8) (cs : List (List UInt8)) (k : Nat) : List (List UInt8) := (List.range k).map fun i => underL l (cs.take i)
theorem Own.one {α : Type} {f : α → List Value} {z E B : Nat} {w : World} {a : α} {b : Nat} {cs : List Value} (hz : ∀ a, (f a).length = z) (hb : Blk w b cs E) (e : cs = f a) (hB : B ≤ b) : Own f z E B w (.slice (some ⟨b, 0, none⟩) 1 1) [a] :=
  ⟨hz, .inr ⟨b, 1, cs, rfl, hB, hb, Nat.le_refl _, by decide, by rw [e, hz, Nat.one_mul], by rw [e]; simp only [List.length_singleton, Nat.one_mul, List.flatMap_cons, List.flatMap_nil, List.append_nil]; rw [← hz a, List.take_length]⟩⟩
theorem rowsU_len (l : List UInt8) (cs : List (List UInt8)) (k : Nat) : (rowsU l cs k).length = k := by simp [rowsU]
theorem rowsU_get (l : List UInt8) (cs : List (List UInt8)) (k i : Nat) (h : i < k) : (rowsU l cs k).getD i [] = underL l (cs.take i) := by
  unfold rowsU
  rw [List.getD_eq_getElem?_getD, List.getElem?_map, List.getElem?_range h]; rfl
theorem irowsUnder_ok (l : List UInt8) (v : Value) (cs : List (List UInt8)) (n : Int) (hl : IsRow l) (hcs : ∀ c ∈ cs, IsChange n c) (hlen : cs.length ≤ 40) (w : World) (h : Sq fS 1 w v cs) : Fn 105 [S l, v] w (fun r w' => Own fS 1 9 w.heap.size w' r (rowsU l cs (cs.length + 1))) := by
  (refine callsV_of mix Try.func105 c_irowsUnder ?_; simp only [↓vsd, vsn, gW, qd, qv, ev, pick, argE, zipE, ne_eq, eq_self, forall_const, implies_true, if_true, if_false, reduceIte, reduceCtorEq, Nat.reduceEqDiff, Nat.reduceAdd, Nat.reduceLT, ↓us_irowsUnder, r_irowsUnder])
  refine m_bsl (one_el rfl) ?_
  rintro b w1 hb hblk hx1 hs1
  simp only [↓vsd, vsn, gW, qd, qv, ev, pick, argE, zipE, ne_eq, eq_self, forall_const, implies_true, if_true, if_false, reduceIte, reduceCtorEq, Nat.reduceEqDiff, Nat.reduceAdd, Nat.reduceLT, ↓us_irowsUnder, r_irowsUnder, h.facts]
  refine m_upto cs.length (fun k vs w' => ∃ x, vs = [S (underL l (cs.take k)), x, .int .i64 k] ∧ Own fS 1 9 w.heap.size w' x (rowsU l cs (k + 1)) ∧ Ext w w') ⟨_, rfl, ?_, hx1⟩ ?_
  · exact (Own.one fS_len hblk rfl (by omega)).to rfl
  rintro k vs w2 hk ⟨x, rfl, ho, hx⟩
  have hq := h.ext hx
  by_cases hlt : k < cs.length
  · have hltI : (k : Int) < cs.length := by omega
    have hltJ : ¬ (cs.length : Int) ≤ k := by omega
    have hc := hcs _ (getD_mem [] hlt)
    have hcl := hc.len
    have hn := hc.1
    simp only [↓vsd, vsn, gW, qd, qv, ev, pick, argE, zipE, ne_eq, eq_self, forall_const, implies_true, if_true, if_false, reduceIte, reduceCtorEq, Nat.reduceEqDiff, Nat.reduceAdd, Nat.reduceLT, ↓us_irowsUnder, r_irowsUnder, hq.facts, hq.at1 [] hlt, hltI, hltJ]
    refine ⟨by omega, m_call (iapply_ok _ _ (underL_row _ hl) (by omega) hc.dig _) ?_⟩
    rintro _ w3 hx3 rfl
    simp only [↓vsd, vsn, gW, qd, qv, ev, pick, argE, zipE, ne_eq, eq_self, forall_const, implies_true, if_true, if_false, reduceIte, reduceCtorEq, Nat.reduceEqDiff, Nat.reduceAdd, Nat.reduceLT, ↓us_irowsUnder, r_irowsUnder]
    refine m_bsl (one_el rfl) ?_
    rintro b4 w4 hb4 hblk4 hx4 hs4
    simp only [↓vsd, vsn, gW, qd, qv, ev, pick, argE, zipE, ne_eq, eq_self, forall_const, implies_true, if_true, if_false, reduceIte, reduceCtorEq, Nat.reduceEqDiff, Nat.reduceAdd, Nat.reduceLT, ↓us_irowsUnder, r_irowsUnder]
    have hx34 := hx3.trans hx4
    have hrl : (rowsU l cs (k + 1)).length = k + 1 := by simp [rowsU]
    refine m_app (ho.ext hx34) (Sq.one fS_len hblk4 rfl) fS_one (by decide) (by rw [hrl]; simp; omega) (by decide) ((hx.trans hx34).size) ?_
    rintro x5 w5 ho5 hg5
    simp only [↓vsd, vsn, gW, qd, qv, ev, pick, argE, zipE, ne_eq, eq_self, forall_const, implies_true, if_true, if_false, reduceIte, reduceCtorEq, Nat.reduceEqDiff, Nat.reduceAdd, Nat.reduceLT, ↓us_irowsUnder, r_irowsUnder]
    have hs := underL_snoc l cs k hlt
    exact ⟨inR_i64 (by omega), UpTo.next hlt ⟨x5, by rw [hs]; rfl, ho5.to (by rw [← hs]; simp [rowsU, List.range_succ]), (ho.ext hx34).grown (hx.trans hx34) (Nat.le_refl _) hg5⟩⟩
  · obtain rfl : k = cs.length := by omega
    have hltI : ¬ (cs.length : Int) < cs.length := by omega
    simp only [↓vsd, vsn, gW, qd, qv, ev, pick, argE, zipE, ne_eq, eq_self, forall_const, implies_true, if_true, if_false, reduceIte, reduceCtorEq, Nat.reduceEqDiff, Nat.reduceAdd, Nat.reduceLT, ↓us_irowsUnder, r_irowsUnder, hltI]
    exact ⟨hx, ho⟩
theorem sl4Lead_ok (l : List UInt8) (v : Value) (cs : List (List UInt8)) (n : Int) (hl : IsRow l) (hcs : ∀ c ∈ cs, IsChange n c) (hlen : cs.length ≤ 40) (w : World) (h : Sq fS 1 w v cs) : Fn 95 [v, S l] w (fun r w' => ∃ x, r = .tuple ⟨[x, S (underL l cs)]⟩ ∧ Own fS 1 9 w.heap.size w' x (rowsU l cs cs.length)) := by
  (refine callsV_of mix Try.func95 c_sl4Lead ?_; simp only [↓vsd, vsn, gW, qd, qv, ev, pick, argE, zipE, ne_eq, eq_self, forall_const, implies_true, if_true, if_false, reduceIte, reduceCtorEq, Nat.reduceEqDiff, Nat.reduceAdd, Nat.reduceLT, ↓us_sl4Lead, r_sl4Lead])
  simp only [↓vsd, vsn, gW, qd, qv, ev, pick, argE, zipE, ne_eq, eq_self, forall_const, implies_true, if_true, if_false, reduceIte, reduceCtorEq, Nat.reduceEqDiff, Nat.reduceAdd, Nat.reduceLT, ↓us_sl4Lead, r_sl4Lead, h.facts]
  refine m_upto cs.length (fun k vs w' => ∃ x, vs = [x, S (underL l (cs.take k)), .int .i64 k] ∧ Own fS 1 9 w.heap.size w' x (rowsU l cs k) ∧ Ext w w') ⟨_, rfl, Own.nil fS_len, Ext.refl _⟩ ?_
  rintro k vs w2 hk ⟨x, rfl, ho, hx⟩
  have hq := h.ext hx
  by_cases hlt : k < cs.length
  · have hltI : (k : Int) < cs.length := by omega
    have hltJ : ¬ (cs.length : Int) ≤ k := by omega
    have hc := hcs _ (getD_mem [] hlt)
    have hcl := hc.len
    have hn := hc.1
    simp only [↓vsd, vsn, gW, qd, qv, ev, pick, argE, zipE, ne_eq, eq_self, forall_const, implies_true, if_true, if_false, reduceIte, reduceCtorEq, Nat.reduceEqDiff, Nat.reduceAdd, Nat.reduceLT, ↓us_sl4Lead, r_sl4Lead, hq.facts, hq.at1 [] hlt, hltI, hltJ]
    refine ⟨by omega, m_bsl (one_el rfl) ?_⟩
    rintro b4 w4 hb4 hblk4 hx4 hs4
    simp only [↓vsd, vsn, gW, qd, qv, ev, pick, argE, zipE, ne_eq, eq_self, forall_const, implies_true, if_true, if_false, reduceIte, reduceCtorEq, Nat.reduceEqDiff, Nat.reduceAdd, Nat.reduceLT, ↓us_sl4Lead, r_sl4Lead]
    have hrl : (rowsU l cs k).length = k := by simp [rowsU]
    refine m_app (ho.ext hx4) (Sq.one fS_len hblk4 rfl) fS_one (by decide) (by rw [hrl]; simp; omega) (by decide) ((hx.trans hx4).size) ?_
    rintro x5 w5 ho5 hg5
    have hx5 := (ho.ext hx4).grown (hx.trans hx4) (Nat.le_refl _) hg5
    simp only [↓vsd, vsn, gW, qd, qv, ev, pick, argE, zipE, ne_eq, eq_self, forall_const, implies_true, if_true, if_false, reduceIte, reduceCtorEq, Nat.reduceEqDiff, Nat.reduceAdd, Nat.reduceLT, ↓us_sl4Lead, r_sl4Lead]
    refine m_call (sl2Apply_ok _ _ (underL_row _ hl) (by omega) _) ?_
    rintro _ w6 hx6 rfl
    simp only [↓vsd, vsn, gW, qd, qv, ev, pick, argE, zipE, ne_eq, eq_self, forall_const, implies_true, if_true, if_false, reduceIte, reduceCtorEq, Nat.reduceEqDiff, Nat.reduceAdd, Nat.reduceLT, ↓us_sl4Lead, r_sl4Lead]
    have hs := underL_snoc l cs k hlt
    exact ⟨inR_i64 (by omega), UpTo.next hlt ⟨x5, by rw [hs]; rfl, (ho5.to (by simp [rowsU, List.range_succ])).ext hx6, hx5.trans hx6⟩⟩
  · obtain rfl : k = cs.length := by omega
    have hltI : ¬ (cs.length : Int) < cs.length := by omega
    simp only [↓vsd, vsn, gW, qd, qv, ev, pick, argE, zipE, ne_eq, eq_self, forall_const, implies_true, if_true, if_false, reduceIte, reduceCtorEq, Nat.reduceEqDiff, Nat.reduceAdd, Nat.reduceLT, ↓us_sl4Lead, r_sl4Lead, hltI]
    exact ⟨hx, x, by rw [List.take_length], ho⟩
theorem ileadHead_ok (nm : List UInt8) (st : Int) (v : Value) (cs : List (List UInt8)) (hm : IsMethod nm st cs) (w : World) (h : Sq fS 1 w v cs) : Fn 103 [mV nm st v] w (fun r _ => r = S (underL (roundsL st.toNat) cs)) := by
  (refine callsV_of mix Try.func103 c_ileadHead ?_; simp only [↓vsd, vsn, gW, qd, qv, ev, pick, argE, zipE, ne_eq, eq_self, forall_const, implies_true, if_true, if_false, reduceIte, reduceCtorEq, Nat.reduceEqDiff, Nat.reduceAdd, Nat.reduceLT, ↓us_ileadHead, r_ileadHead])
  refine m_al ?_
  rintro b w1 hb hblk hx1 hs1
  have h1 : Blk w1 b (fM nm st v) 44 := hblk
  have hq1 := h.ext hx1
  simp only [↓vsd, vsn, gW, qd, qv, ev, pick, argE, zipE, ne_eq, eq_self, forall_const, implies_true, if_true, if_false, reduceIte, reduceCtorEq, Nat.reduceEqDiff, Nat.reduceAdd, Nat.reduceLT, ↓us_ileadHead, r_ileadHead, h1.facts, fMg]
  obtain ⟨s, rfl⟩ : ∃ s : Nat, st = s := ⟨st.toNat, by have := hm.2.1; omega⟩
  have hs := hm.2.1
  have hd1 : Ext w1 w1.drew := dr (Ext.refl _)
  refine m_call (irounds_ok s (by omega) _) ?_
  rintro _ w2 hx2 rfl
  have hx12 := ud hx2
  have h2 := h1.ext hx12
  simp only [↓vsd, vsn, gW, qd, qv, ev, pick, argE, zipE, ne_eq, eq_self, forall_const, implies_true, if_true, if_false, reduceIte, reduceCtorEq, Nat.reduceEqDiff, Nat.reduceAdd, Nat.reduceLT, ↓us_ileadHead, r_ileadHead, h2.facts, fMg]
  have hrow := roundsL_row s (by omega)
  refine m_call (irowsUnder_ok _ v cs s hrow hm.2.2.2 hm.2.2.1.2 _ (hq1.ext hx12)) ?_
  rintro x w3 hx3 ho3
  have hlen := rowsU_len (roundsL s) cs (cs.length + 1)
  have hI : ((cs.length + 1 : Nat) : Int) - 1 = (cs.length : Nat) := by omega
  have hge := rowsU_get (roundsL s) cs (cs.length + 1) cs.length (by omega)
  rw [List.take_length] at hge
  have hlt : cs.length < (rowsU (roundsL s) cs (cs.length + 1)).length := by omega
  simp only [↓vsd, vsn, gW, qd, qv, ev, pick, argE, zipE, ne_eq, eq_self, forall_const, implies_true, if_true, if_false, reduceIte, reduceCtorEq, Nat.reduceEqDiff, Nat.reduceAdd, Nat.reduceLT, ↓us_ileadHead, r_ileadHead, ho3.sq.facts, hlen, hI, ho3.sq.at1 [] hlt, hge]
  exact ⟨inR_i64 (by have := hm.2.2.1; omega), by omega, hx1.trans (hx12.trans hx3)⟩
end Go.Proofs.Ytfklonhjgkahdaa
