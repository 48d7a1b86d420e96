/-
  Methods: what a good one is, its lead's rows, its lead head.
  Conditions: none.
-/
import Derived.Test.YthopbkemkfjebaaGreatKA10
set_option linter.unusedSimpArgs false
set_option linter.unusedVariables false
set_option linter.defProp false
namespace Go.Proofs.YthopbkemkfjebaaGreat
open Go Go.RowKit
section
variable (P : Program) (k : KT) (e : Env) (w : World)
abbrev b118_1 : X := (.cond (.t 18) (.seq (.reg [2] (.c (.q 2 [] (.mv (.c (.bool false)))) .nil)) .ret) .skip)
def t118_1 := b118_1
theorem u118_1 : vcK P t118_1 k e w = vcK P b118_1 k e w := rfl
abbrev b118_2 : X := (.seq (.reg [0, 5, 6, 18] (.c (.q 9 [] (.mv (.t 0))) (.c (.q 10 [] (.mv (.t 3))) (.c (.q 11 [] (.idx (.t 9) (.t 10))) (.c (.q 12 [] (.bin .lss (.t 11) (.c (.int .u8 97)))) (.c (.q 13 [] (.mv (.t 12))) (.c (.q 14 [(13, false)] (.mv (.t 0))) (.c (.q 15 [(13, false)] (.mv (.t 3))) (.c (.q 16 [(13, false)] (.idx (.t 14) (.t 15))) (.c (.q 17 [(13, false)] (.bin .gtr (.t 16) (.c (.int .u8 122)))) (.c (.q 18 [] (.pick (.t 13) (.c (.bool true)) (.t 17))) .nil))))))))))) t118_1)
def t118_2 := b118_2
theorem u118_2 : vcK P t118_2 k e w = vcK P b118_2 k e w := rfl
abbrev b118_3 : X := (.reg [0, 5, 6] (.c (.q 19 [] (.bin .add (.t 6) (.c (.int .i64 1)))) (.c (.q 6 [] (.mv (.t 19))) .nil)))
def t118_3 := b118_3
theorem u118_3 : vcK P t118_3 k e w = vcK P b118_3 k e w := rfl
abbrev b118_4 : X := (.seq (.blk 1 (.seq (.reg [0, 3, 5, 6] (.c (.q 8 [] (.mv (.t 6))) (.c (.q 3 [] (.mv (.t 8))) .nil))) t118_2)) t118_3)
def t118_4 := b118_4
theorem u118_4 : vcK P t118_4 k e w = vcK P b118_4 k e w := rfl
abbrev b118_5 : X := (.seq (.cond (.t 7) .skip (.exit 0)) t118_4)
def t118_5 := b118_5
theorem u118_5 : vcK P t118_5 k e w = vcK P b118_5 k e w := rfl
abbrev b118_6 : X := (.seq (.reg [0, 5, 6, 7] (.c (.q 7 [] (.bin .lss (.t 6) (.t 5))) .nil)) t118_5)
def t118_6 := b118_6
theorem u118_6 : vcK P t118_6 k e w = vcK P b118_6 k e w := rfl
abbrev b118_7 : X := (.blk 0 (.loop [6] [0, 5] t118_6))
def t118_7 := b118_7
theorem u118_7 : vcK P t118_7 k e w = vcK P b118_7 k e w := rfl
abbrev b118_8 : X := (.seq (.reg [2] (.c (.q 20 [] (.mv (.t 0))) (.c (.q 21 [] (.len (.t 20))) (.c (.q 22 [] (.bin .geq (.t 21) (.c (.int .i64 1)))) (.c (.q 23 [] (.mv (.t 22))) (.c (.q 24 [(23, true)] (.mv (.t 0))) (.c (.q 25 [(23, true)] (.len (.t 24))) (.c (.q 26 [(23, true)] (.bin .leq (.t 25) (.c (.int .i64 10)))) (.c (.q 27 [] (.pick (.t 23) (.t 26) (.c (.bool false)))) (.c (.q 2 [] (.mv (.t 27))) .nil)))))))))) .ret)
def t118_8 := b118_8
theorem u118_8 : vcK P t118_8 k e w = vcK P b118_8 k e w := rfl
abbrev b118_9 : X := (.seq (.seq (.reg [0, 5, 6] (.c (.q 4 [] (.mv (.t 0))) (.c (.q 5 [] (.len (.t 4))) (.c (.q 6 [] (.mv (.c (.int .i64 0)))) .nil)))) t118_7) t118_8)
def t118_9 := b118_9
theorem u118_9 : vcK P t118_9 k e w = vcK P b118_9 k e w := rfl
abbrev b118_0 : X := (.seq (.reg [0] (.c (.q 2 [] (.mv (.c (.bool false)))) .nil)) t118_9)
def x_iisWord := b118_0
theorem u118_0 : vcK P x_iisWord k e w = vcK P b118_0 k e w := rfl
def r_iisWord : List XO := [(.mv (.t 2))]
theorem c_iisWord : convF Tryz.prog [56, 58, 59, 60, 61, 62, 72, 73, 77, 97, 98, 109, 110, 111, 112, 115, 128, 136] Tryz.f118 [([0], []), ([0, 5, 6], []), ([6], [0, 5]), ([0, 5, 6, 7], []), ([0, 3, 5, 6], []), ([0, 5, 6, 18], []), ([2], []), ([0, 5, 6], []), ([2], [])] = some (x_iisWord, r_iisWord) := by kernel_rfl
def us_iisWord :=  (aI (aI (aI @u118_0 @u118_1) (aI @u118_2 (aI @u118_3 @u118_4))) (aI (aI @u118_5 @u118_6) (aI @u118_7 (aI @u118_8 @u118_9))))
abbrev b114_1 : X := (.cond (.t 7) .skip (.exit 0))
def t114_1 := b114_1
theorem u114_1 : vcK P t114_1 k e w = vcK P b114_1 k e w := rfl
abbrev b114_2 : X := (.cond (.t 19) (.seq (.reg [2] (.c (.q 2 [] (.mv (.c (.bool false)))) .nil)) .ret) .skip)
def t114_2 := b114_2
theorem u114_2 : vcK P t114_2 k e w = vcK P b114_2 k e w := rfl
abbrev b114_3 : X := (.reg [0, 3] (.c (.q 8 [] (.mv (.t 3))) (.c (.q 9 [] (.bin .add (.t 8) (.c (.int .i64 1)))) (.c (.q 3 [] (.mv (.t 9))) .nil))))
def t114_3 := b114_3
theorem u114_3 : vcK P t114_3 k e w = vcK P b114_3 k e w := rfl
abbrev b114_4 : X := (.seq (.blk 1 (.seq (.reg [0, 3, 19] (.c (.q 10 [] (.mv (.t 0))) (.c (.q 11 [] (.mv (.t 3))) (.c (.q 12 [] (.idx (.t 10) (.t 11))) (.c (.q 13 [] (.bin .lss (.t 12) (.c (.int .u8 97)))) (.c (.q 14 [] (.mv (.t 13))) (.c (.q 15 [(14, false)] (.mv (.t 0))) (.c (.q 16 [(14, false)] (.mv (.t 3))) (.c (.q 17 [(14, false)] (.idx (.t 15) (.t 16))) (.c (.q 18 [(14, false)] (.bin .gtr (.t 17) (.c (.int .u8 122)))) (.c (.q 19 [] (.pick (.t 14) (.c (.bool true)) (.t 18))) .nil))))))))))) t114_2)) t114_3)
def t114_4 := b114_4
theorem u114_4 : vcK P t114_4 k e w = vcK P b114_4 k e w := rfl
abbrev b114_5 : X := (.seq (.seq (.reg [0, 3, 7] (.c (.q 4 [] (.mv (.t 3))) (.c (.q 5 [] (.mv (.t 0))) (.c (.q 6 [] (.len (.t 5))) (.c (.q 7 [] (.bin .lss (.t 4) (.t 6))) .nil))))) t114_1) t114_4)
def t114_5 := b114_5
theorem u114_5 : vcK P t114_5 k e w = vcK P b114_5 k e w := rfl
abbrev b114_6 : X := (.blk 0 (.loop [3] [0] t114_5))
def t114_6 := b114_6
theorem u114_6 : vcK P t114_6 k e w = vcK P b114_6 k e w := rfl
abbrev b114_7 : X := (.seq (.reg [2] (.c (.q 20 [] (.mv (.t 0))) (.c (.q 21 [] (.len (.t 20))) (.c (.e (some 22) [] (.call false 67 [(.t 21), (.c (.int .i64 1)), (.c (.int .i64 10))])) (.c (.q 2 [] (.mv (.t 22))) .nil))))) .ret)
def t114_7 := b114_7
theorem u114_7 : vcK P t114_7 k e w = vcK P b114_7 k e w := rfl
abbrev b114_8 : X := (.seq (.seq (.reg [0, 3] (.c (.q 3 [] (.mv (.c (.int .i64 0)))) .nil)) t114_6) t114_7)
def t114_8 := b114_8
theorem u114_8 : vcK P t114_8 k e w = vcK P b114_8 k e w := rfl
abbrev b114_0 : X := (.seq (.reg [0] (.c (.q 2 [] (.mv (.c (.bool false)))) .nil)) t114_8)
def x_sl4Name := b114_0
theorem u114_0 : vcK P x_sl4Name k e w = vcK P b114_0 k e w := rfl
def r_sl4Name : List XO := [(.mv (.t 2))]
theorem c_sl4Name : convF Tryz.prog [56, 58, 59, 60, 61, 62, 72, 73, 77, 97, 98, 109, 110, 111, 112, 115, 128, 136] Tryz.f114 [([0], []), ([0, 3], []), ([3], [0]), ([0, 3, 7], []), ([0, 3, 19], []), ([2], []), ([0, 3], []), ([2], [])] = some (x_sl4Name, r_sl4Name) := by kernel_rfl
def us_sl4Name :=  (aI (aI (aI @u114_0 @u114_1) (aI @u114_2 @u114_3)) (aI (aI @u114_4 @u114_5) (aI @u114_6 (aI @u114_7 @u114_8))))
abbrev b119_1 : X := (.cond (.t 14) (.seq (.reg [4] (.c (.q 4 [] (.mv (.c (.bool false)))) .nil)) .ret) .skip)
def t119_1 := b119_1
theorem u119_1 : vcK P t119_1 k e w = vcK P b119_1 k e w := rfl
abbrev b119_2 : X := (.cond (.t 24) (.seq (.reg [4] (.c (.q 4 [] (.mv (.c (.bool false)))) .nil)) .ret) .skip)
def t119_2 := b119_2
theorem u119_2 : vcK P t119_2 k e w = vcK P b119_2 k e w := rfl
abbrev b119_3 : X := (.seq (.reg [0, 15, 16, 17, 24] (.c (.q 21 [] (.mv (.t 0))) (.c (.q 22 [] (.mv (.t 6))) (.c (.e (some 23) [] (.call false 138 [(.t 21), (.t 22)])) (.c (.q 24 [] (.not (.t 23))) .nil))))) t119_2)
def t119_3 := b119_3
theorem u119_3 : vcK P t119_3 k e w = vcK P b119_3 k e w := rfl
abbrev b119_4 : X := (.reg [0, 15, 16, 17] (.c (.q 25 [] (.bin .add (.t 17) (.c (.int .i64 1)))) (.c (.q 17 [] (.mv (.t 25))) .nil)))
def t119_4 := b119_4
theorem u119_4 : vcK P t119_4 k e w = vcK P b119_4 k e w := rfl
abbrev b119_5 : X := (.seq (.blk 1 (.seq (.reg [0, 6, 15, 16, 17] (.c (.q 19 [] (.ia 1 (.t 15) (.t 17))) (.c (.q 20 [] (.ld (.t 19))) (.c (.q 6 [] (.mv (.t 20))) .nil)))) t119_3)) t119_4)
def t119_5 := b119_5
theorem u119_5 : vcK P t119_5 k e w = vcK P b119_5 k e w := rfl
abbrev b119_6 : X := (.seq (.cond (.t 18) .skip (.exit 0)) t119_5)
def t119_6 := b119_6
theorem u119_6 : vcK P t119_6 k e w = vcK P b119_6 k e w := rfl
abbrev b119_7 : X := (.seq (.reg [0, 15, 16, 17, 18] (.c (.q 18 [] (.bin .lss (.t 17) (.t 16))) .nil)) t119_6)
def t119_7 := b119_7
theorem u119_7 : vcK P t119_7 k e w = vcK P b119_7 k e w := rfl
abbrev b119_8 : X := (.blk 0 (.loop [17] [0, 15, 16] t119_7))
def t119_8 := b119_8
theorem u119_8 : vcK P t119_8 k e w = vcK P b119_8 k e w := rfl
abbrev b119_9 : X := (.seq (.reg [4] (.c (.q 4 [] (.mv (.c (.bool true)))) .nil)) .ret)
def t119_9 := b119_9
theorem u119_9 : vcK P t119_9 k e w = vcK P b119_9 k e w := rfl
abbrev b119_10 : X := (.seq (.seq (.reg [0, 15, 16, 17] (.c (.q 15 [] (.mv (.t 1))) (.c (.q 16 [] (.lens (.t 15))) (.c (.q 17 [] (.mv (.c (.int .i64 0)))) .nil)))) t119_8) t119_9)
def t119_10 := b119_10
theorem u119_10 : vcK P t119_10 k e w = vcK P b119_10 k e w := rfl
abbrev b119_11 : X := (.seq (.seq (.reg [0, 1, 14] (.c (.q 7 [] (.mv (.t 1))) (.c (.q 8 [] (.lens (.t 7))) (.c (.q 9 [] (.bin .lss (.t 8) (.c (.int .i64 1)))) (.c (.q 10 [] (.mv (.t 9))) (.c (.q 11 [(10, false)] (.mv (.t 1))) (.c (.q 12 [(10, false)] (.lens (.t 11))) (.c (.q 13 [(10, false)] (.bin .gtr (.t 12) (.c (.int .i64 40)))) (.c (.q 14 [] (.pick (.t 10) (.c (.bool true)) (.t 13))) .nil))))))))) t119_1) t119_10)
def t119_11 := b119_11
theorem u119_11 : vcK P t119_11 k e w = vcK P b119_11 k e w := rfl
abbrev b119_0 : X := (.seq (.reg [0, 1] (.c (.q 4 [] (.mv (.c (.bool false)))) .nil)) t119_11)
def x_iareChanges := b119_0
theorem u119_0 : vcK P x_iareChanges k e w = vcK P b119_0 k e w := rfl
def r_iareChanges : List XO := [(.mv (.t 4))]
theorem c_iareChanges : convF Tryz.prog [56, 58, 59, 60, 61, 62, 72, 73, 77, 97, 98, 109, 110, 111, 112, 115, 128, 136] Tryz.f119 [([0, 1], []), ([0, 1, 14], []), ([4], []), ([0, 15, 16, 17], []), ([17], [0, 15, 16]), ([0, 15, 16, 17, 18], []), ([0, 6, 15, 16, 17], []), ([0, 15, 16, 17, 24], []), ([4], []), ([0, 15, 16, 17], []), ([4], [])] = some (x_iareChanges, r_iareChanges) := by kernel_rfl
def us_iareChanges :=  (aI (aI (aI @u119_0 (aI @u119_1 @u119_2)) (aI @u119_3 (aI @u119_4 @u119_5))) (aI (aI @u119_6 (aI @u119_7 @u119_8)) (aI @u119_9 (aI @u119_10 @u119_11))))
abbrev b63_1 : X := (.seq (.reg [2] (.c (.q 3 [] (.fa 0 (.t 1))) (.c (.q 4 [] (.ld (.t 3))) (.c (.e (some 5) [] (.call false 118 [(.t 4)])) (.c (.q 6 [] (.mv (.t 5))) (.c (.q 7 [(6, true)] (.fa 1 (.t 1))) (.c (.q 8 [(6, true)] (.ld (.t 7))) (.c (.q 9 [(6, true)] (.fa 2 (.t 1))) (.c (.q 10 [(6, true)] (.ld (.t 9))) (.c (.e (some 11) [(6, true)] (.call false 119 [(.t 8), (.t 10)])) (.c (.q 12 [] (.pick (.t 6) (.t 11) (.c (.bool false)))) (.c (.q 2 [] (.mv (.t 12))) .nil)))))))))))) .ret)
def t63_1 := b63_1
theorem u63_1 : vcK P t63_1 k e w = vcK P b63_1 k e w := rfl
abbrev b63_0 : X := (.seq (.reg [1] (.c (.e (some 1) [] (.box 25 (.t 0))) (.c (.q 2 [] (.mv (.c (.bool false)))) .nil))) t63_1)
def x_iGoodMethod := b63_0
theorem u63_0 : vcK P x_iGoodMethod k e w = vcK P b63_0 k e w := rfl
def r_iGoodMethod : List XO := [(.mv (.t 2))]
theorem c_iGoodMethod : convF Tryz.prog [56, 58, 59, 60, 61, 62, 72, 73, 77, 97, 98, 109, 110, 111, 112, 115, 128, 136] Tryz.f63 [([1], []), ([2], [])] = some (x_iGoodMethod, r_iGoodMethod) := by kernel_rfl
def us_iGoodMethod :=  (aI @u63_0 @u63_1)
abbrev b57_1 : X := (.cond (.t 16) (.seq (.reg [2] (.c (.q 2 [] (.mv (.c (.bool false)))) .nil)) .ret) .skip)
def t57_1 := b57_1
theorem u57_1 : vcK P t57_1 k e w = vcK P b57_1 k e w := rfl
abbrev b57_2 : X := (.seq (.reg [1, 6, 7, 8, 16] (.c (.q 12 [] (.fa 1 (.t 1))) (.c (.q 13 [] (.ld (.t 12))) (.c (.q 14 [] (.mv (.t 4))) (.c (.e (some 15) [] (.call false 113 [(.t 13), (.t 14)])) (.c (.q 16 [] (.not (.t 15))) .nil)))))) t57_1)
def t57_2 := b57_2
theorem u57_2 : vcK P t57_2 k e w = vcK P b57_2 k e w := rfl
abbrev b57_3 : X := (.reg [1, 6, 7, 8] (.c (.q 17 [] (.bin .add (.t 8) (.c (.int .i64 1)))) (.c (.q 8 [] (.mv (.t 17))) .nil)))
def t57_3 := b57_3
theorem u57_3 : vcK P t57_3 k e w = vcK P b57_3 k e w := rfl
abbrev b57_4 : X := (.seq (.blk 1 (.seq (.reg [1, 4, 6, 7, 8] (.c (.q 10 [] (.ia 1 (.t 6) (.t 8))) (.c (.q 11 [] (.ld (.t 10))) (.c (.q 4 [] (.mv (.t 11))) .nil)))) t57_2)) t57_3)
def t57_4 := b57_4
theorem u57_4 : vcK P t57_4 k e w = vcK P b57_4 k e w := rfl
abbrev b57_5 : X := (.seq (.cond (.t 9) .skip (.exit 0)) t57_4)
def t57_5 := b57_5
theorem u57_5 : vcK P t57_5 k e w = vcK P b57_5 k e w := rfl
abbrev b57_6 : X := (.seq (.reg [1, 6, 7, 8, 9] (.c (.q 9 [] (.bin .lss (.t 8) (.t 7))) .nil)) t57_5)
def t57_6 := b57_6
theorem u57_6 : vcK P t57_6 k e w = vcK P b57_6 k e w := rfl
abbrev b57_7 : X := (.blk 0 (.loop [8] [1, 6, 7] t57_6))
def t57_7 := b57_7
theorem u57_7 : vcK P t57_7 k e w = vcK P b57_7 k e w := rfl
abbrev b57_8 : X := (.seq (.reg [2] (.c (.q 18 [] (.fa 0 (.t 1))) (.c (.q 19 [] (.ld (.t 18))) (.c (.e (some 20) [] (.call false 114 [(.t 19)])) (.c (.q 21 [] (.mv (.t 20))) (.c (.q 22 [(21, true)] (.fa 1 (.t 1))) (.c (.q 23 [(21, true)] (.ld (.t 22))) (.c (.e (some 24) [(21, true)] (.call false 67 [(.t 23), (.c (.int .i64 3)), (.c (.int .i64 8))])) (.c (.q 25 [] (.pick (.t 21) (.t 24) (.c (.bool false)))) (.c (.q 26 [] (.mv (.t 25))) (.c (.q 27 [(26, true)] (.fa 2 (.t 1))) (.c (.q 28 [(26, true)] (.ld (.t 27))) (.c (.q 29 [(26, true)] (.lens (.t 28))) (.c (.e (some 30) [(26, true)] (.call false 67 [(.t 29), (.c (.int .i64 1)), (.c (.int .i64 40))])) (.c (.q 31 [] (.pick (.t 26) (.t 30) (.c (.bool false)))) (.c (.q 2 [] (.mv (.t 31))) .nil)))))))))))))))) .ret)
def t57_8 := b57_8
theorem u57_8 : vcK P t57_8 k e w = vcK P b57_8 k e w := rfl
abbrev b57_9 : X := (.seq (.seq (.reg [1, 6, 7, 8] (.c (.q 5 [] (.fa 2 (.t 1))) (.c (.q 6 [] (.ld (.t 5))) (.c (.q 7 [] (.lens (.t 6))) (.c (.q 8 [] (.mv (.c (.int .i64 0)))) .nil))))) t57_7) t57_8)
def t57_9 := b57_9
theorem u57_9 : vcK P t57_9 k e w = vcK P b57_9 k e w := rfl
abbrev b57_0 : X := (.seq (.reg [1] (.c (.e (some 1) [] (.box 25 (.t 0))) (.c (.q 2 [] (.mv (.c (.bool false)))) .nil))) t57_9)
def x_sl4Good := b57_0
theorem u57_0 : vcK P x_sl4Good k e w = vcK P b57_0 k e w := rfl
def r_sl4Good : List XO := [(.mv (.t 2))]
theorem c_sl4Good : convF Tryz.prog [56, 58, 59, 60, 61, 62, 72, 73, 77, 97, 98, 109, 110, 111, 112, 115, 128, 136] Tryz.f57 [([1], []), ([1, 6, 7, 8], []), ([8], [1, 6, 7]), ([1, 6, 7, 8, 9], []), ([1, 4, 6, 7, 8], []), ([1, 6, 7, 8, 16], []), ([2], []), ([1, 6, 7, 8], []), ([2], [])] = some (x_sl4Good, r_sl4Good) := by kernel_rfl
def us_sl4Good :=  (aI (aI (aI @u57_0 @u57_1) (aI @u57_2 (aI @u57_3 @u57_4))) (aI (aI @u57_5 @u57_6) (aI @u57_7 (aI @u57_8 @u57_9))))
abbrev b135_1 : X := (.reg [0, 5, 10, 11, 12] (.c (.q 19 [] (.mv (.t 5))) (.c (.q 20 [] (.mv (.t 0))) (.c (.e (some 21) [] (.bsl 9 1 [(.t 20)])) (.c (.e (some 22) [] (.app 23 9 1 16 [(S [])] 23 (.t 19) (.t 21))) (.c (.q 5 [] (.mv (.t 22))) .nil))))))
def t135_1 := b135_1
theorem u135_1 : vcK P t135_1 k e w = vcK P b135_1 k e w := rfl
abbrev b135_2 : X := (.seq (.reg [0, 5, 10, 11, 12] (.c (.q 16 [] (.mv (.t 0))) (.c (.q 17 [] (.mv (.t 7))) (.c (.e (some 18) [] (.call false 148 [(.t 16), (.t 17)])) (.c (.q 0 [] (.mv (.t 18))) .nil))))) t135_1)
def t135_2 := b135_2
theorem u135_2 : vcK P t135_2 k e w = vcK P b135_2 k e w := rfl
abbrev b135_3 : X := (.reg [0, 5, 10, 11, 12] (.c (.q 23 [] (.bin .add (.t 12) (.c (.int .i64 1)))) (.c (.q 12 [] (.mv (.t 23))) .nil)))
def t135_3 := b135_3
theorem u135_3 : vcK P t135_3 k e w = vcK P b135_3 k e w := rfl
abbrev b135_4 : X := (.seq (.blk 1 (.seq (.reg [0, 5, 7, 10, 11, 12] (.c (.q 14 [] (.ia 1 (.t 10) (.t 12))) (.c (.q 15 [] (.ld (.t 14))) (.c (.q 7 [] (.mv (.t 15))) .nil)))) t135_2)) t135_3)
def t135_4 := b135_4
theorem u135_4 : vcK P t135_4 k e w = vcK P b135_4 k e w := rfl
abbrev b135_5 : X := (.seq (.cond (.t 13) .skip (.exit 0)) t135_4)
def t135_5 := b135_5
theorem u135_5 : vcK P t135_5 k e w = vcK P b135_5 k e w := rfl
abbrev b135_6 : X := (.seq (.reg [0, 5, 10, 11, 12, 13] (.c (.q 13 [] (.bin .lss (.t 12) (.t 11))) .nil)) t135_5)
def t135_6 := b135_6
theorem u135_6 : vcK P t135_6 k e w = vcK P b135_6 k e w := rfl
abbrev b135_7 : X := (.blk 0 (.loop [0, 5, 12] [10, 11] t135_6))
def t135_7 := b135_7
theorem u135_7 : vcK P t135_7 k e w = vcK P b135_7 k e w := rfl
abbrev b135_8 : X := (.seq (.reg [4] (.c (.q 24 [] (.mv (.t 5))) (.c (.q 4 [] (.mv (.t 24))) .nil))) .ret)
def t135_8 := b135_8
theorem u135_8 : vcK P t135_8 k e w = vcK P b135_8 k e w := rfl
abbrev b135_9 : X := (.seq (.seq (.reg [0, 5, 10, 11, 12] (.c (.q 10 [] (.mv (.t 1))) (.c (.q 11 [] (.lens (.t 10))) (.c (.q 12 [] (.mv (.c (.int .i64 0)))) .nil)))) t135_7) t135_8)
def t135_9 := b135_9
theorem u135_9 : vcK P t135_9 k e w = vcK P b135_9 k e w := rfl
abbrev b135_10 : X := (.seq (.reg [0, 1, 5] (.c (.q 8 [] (.mv (.t 0))) (.c (.e (some 9) [] (.bsl 9 1 [(.t 8)])) (.c (.q 5 [] (.mv (.t 9))) .nil)))) t135_9)
def t135_10 := b135_10
theorem u135_10 : vcK P t135_10 k e w = vcK P b135_10 k e w := rfl
abbrev b135_0 : X := (.seq (.reg [0, 1] (.c (.q 4 [] (.mv (.c (.slice none 0 0)))) .nil)) t135_10)
def x_irowsUnder := b135_0
theorem u135_0 : vcK P x_irowsUnder k e w = vcK P b135_0 k e w := rfl
def r_irowsUnder : List XO := [(.mv (.t 4))]
theorem c_irowsUnder : convF Tryz.prog [56, 58, 59, 60, 61, 62, 72, 73, 77, 97, 98, 109, 110, 111, 112, 115, 128, 136] Tryz.f135 [([0, 1], []), ([0, 1, 5], []), ([0, 5, 10, 11, 12], []), ([0, 5, 12], [10, 11]), ([0, 5, 10, 11, 12, 13], []), ([0, 5, 7, 10, 11, 12], []), ([0, 5, 10, 11, 12], []), ([0, 5, 10, 11, 12], []), ([0, 5, 10, 11, 12], []), ([4], [])] = some (x_irowsUnder, r_irowsUnder) := by kernel_rfl
def us_irowsUnder :=  (aI (aI (aI @u135_0 @u135_1) (aI @u135_2 (aI @u135_3 @u135_4))) (aI (aI @u135_5 (aI @u135_6 @u135_7)) (aI @u135_8 (aI @u135_9 @u135_10))))
abbrev b146_1 : X := (.seq (.reg [2] (.c (.q 10 [] (.mv (.t 3))) (.c (.q 11 [] (.mv (.t 3))) (.c (.q 12 [] (.lens (.t 11))) (.c (.q 13 [] (.bin .sub (.t 12) (.c (.int .i64 1)))) (.c (.q 14 [] (.ia 1 (.t 10) (.t 13))) (.c (.q 15 [] (.ld (.t 14))) (.c (.q 2 [] (.mv (.t 15))) .nil)))))))) .ret)
def t146_1 := b146_1
theorem u146_1 : vcK P t146_1 k e w = vcK P b146_1 k e w := rfl
abbrev b146_2 : X := (.seq (.drw [3] (.c (.q 4 [] (.fa 1 (.t 1))) (.c (.q 5 [] (.ld (.t 4))) (.c (.q 7 [] (.fa 2 (.t 1))) (.c (.q 8 [] (.ld (.t 7))) (.c (.e (some 6) [] (.call false 131 [(.t 5)])) (.c (.e (some 9) [] (.call false 135 [(.t 6), (.t 8)])) (.c (.q 3 [] (.mv (.t 9))) .nil)))))))) t146_1)
def t146_2 := b146_2
theorem u146_2 : vcK P t146_2 k e w = vcK P b146_2 k e w := rfl
abbrev b146_0 : X := (.seq (.reg [1] (.c (.e (some 1) [] (.box 25 (.t 0))) (.c (.q 2 [] (.mv (.s []))) .nil))) t146_2)
def x_ileadHead := b146_0
theorem u146_0 : vcK P x_ileadHead k e w = vcK P b146_0 k e w := rfl
def r_ileadHead : List XO := [(.mv (.t 2))]
theorem c_ileadHead : convF Tryz.prog [56, 58, 59, 60, 61, 62, 72, 73, 77, 97, 98, 109, 110, 111, 112, 115, 128, 136] Tryz.f146 [([1], []), ([3], []), ([2], [])] = some (x_ileadHead, r_ileadHead) := by kernel_rfl
def us_ileadHead :=  (aI @u146_0 (aI @u146_1 @u146_2))
abbrev b122_1 : X := (.reg [6, 7, 11, 12, 13] (.c (.q 21 [] (.mv (.t 7))) (.c (.q 22 [] (.mv (.t 9))) (.c (.e (some 23) [] (.call false 140 [(.t 21), (.t 22)])) (.c (.q 7 [] (.mv (.t 23))) .nil)))))
def t122_1 := b122_1
theorem u122_1 : vcK P t122_1 k e w = vcK P b122_1 k e w := rfl
abbrev b122_2 : X := (.seq (.reg [6, 7, 9, 11, 12, 13] (.c (.q 17 [] (.mv (.t 6))) (.c (.q 18 [] (.mv (.t 7))) (.c (.e (some 19) [] (.bsl 9 1 [(.t 18)])) (.c (.e (some 20) [] (.app 23 9 1 16 [(S [])] 23 (.t 17) (.t 19))) (.c (.q 6 [] (.mv (.t 20))) .nil)))))) t122_1)
def t122_2 := b122_2
theorem u122_2 : vcK P t122_2 k e w = vcK P b122_2 k e w := rfl
abbrev b122_3 : X := (.reg [6, 7, 11, 12, 13] (.c (.q 24 [] (.bin .add (.t 13) (.c (.int .i64 1)))) (.c (.q 13 [] (.mv (.t 24))) .nil)))
def t122_3 := b122_3
theorem u122_3 : vcK P t122_3 k e w = vcK P b122_3 k e w := rfl
abbrev b122_4 : X := (.seq (.blk 1 (.seq (.reg [6, 7, 9, 11, 12, 13] (.c (.q 15 [] (.ia 1 (.t 11) (.t 13))) (.c (.q 16 [] (.ld (.t 15))) (.c (.q 9 [] (.mv (.t 16))) .nil)))) t122_2)) t122_3)
def t122_4 := b122_4
theorem u122_4 : vcK P t122_4 k e w = vcK P b122_4 k e w := rfl
abbrev b122_5 : X := (.seq (.cond (.t 14) .skip (.exit 0)) t122_4)
def t122_5 := b122_5
theorem u122_5 : vcK P t122_5 k e w = vcK P b122_5 k e w := rfl
abbrev b122_6 : X := (.seq (.reg [6, 7, 11, 12, 13, 14] (.c (.q 14 [] (.bin .lss (.t 13) (.t 12))) .nil)) t122_5)
def t122_6 := b122_6
theorem u122_6 : vcK P t122_6 k e w = vcK P b122_6 k e w := rfl
abbrev b122_7 : X := (.blk 0 (.loop [6, 7, 13] [11, 12] t122_6))
def t122_7 := b122_7
theorem u122_7 : vcK P t122_7 k e w = vcK P b122_7 k e w := rfl
abbrev b122_8 : X := (.seq (.reg [4, 5] (.c (.q 25 [] (.mv (.t 6))) (.c (.q 26 [] (.mv (.t 7))) (.c (.q 4 [] (.mv (.t 25))) (.c (.q 5 [] (.mv (.t 26))) .nil))))) .ret)
def t122_8 := b122_8
theorem u122_8 : vcK P t122_8 k e w = vcK P b122_8 k e w := rfl
abbrev b122_9 : X := (.seq (.seq (.reg [6, 7, 11, 12, 13] (.c (.q 11 [] (.mv (.t 0))) (.c (.q 12 [] (.lens (.t 11))) (.c (.q 13 [] (.mv (.c (.int .i64 0)))) .nil)))) t122_7) t122_8)
def t122_9 := b122_9
theorem u122_9 : vcK P t122_9 k e w = vcK P b122_9 k e w := rfl
abbrev b122_10 : X := (.seq (.reg [0, 6, 7] (.c (.q 10 [] (.mv (.t 1))) (.c (.q 7 [] (.mv (.t 10))) .nil))) t122_9)
def t122_10 := b122_10
theorem u122_10 : vcK P t122_10 k e w = vcK P b122_10 k e w := rfl
abbrev b122_11 : X := (.seq (.reg [0, 1, 6] (.c (.q 6 [] (.mv (.c (.slice none 0 0)))) .nil)) t122_10)
def t122_11 := b122_11
theorem u122_11 : vcK P t122_11 k e w = vcK P b122_11 k e w := rfl
abbrev b122_0 : X := (.seq (.reg [0, 1] (.c (.q 4 [] (.mv (.c (.slice none 0 0)))) (.c (.q 5 [] (.mv (.s []))) .nil))) t122_11)
def x_sl4Lead := b122_0
theorem u122_0 : vcK P x_sl4Lead k e w = vcK P b122_0 k e w := rfl
def r_sl4Lead : List XO := [(.mv (.t 4)), (.mv (.t 5))]
theorem c_sl4Lead : convF Tryz.prog [56, 58, 59, 60, 61, 62, 72, 73, 77, 97, 98, 109, 110, 111, 112, 115, 128, 136] Tryz.f122 [([0, 1], []), ([0, 1, 6], []), ([0, 6, 7], []), ([6, 7, 11, 12, 13], []), ([6, 7, 13], [11, 12]), ([6, 7, 11, 12, 13, 14], []), ([6, 7, 9, 11, 12, 13], []), ([6, 7, 9, 11, 12, 13], []), ([6, 7, 11, 12, 13], []), ([6, 7, 11, 12, 13], []), ([4, 5], [])] = some (x_sl4Lead, r_sl4Lead) := by kernel_rfl
def us_sl4Lead :=  (aI (aI (aI @u122_0 (aI @u122_1 @u122_2)) (aI @u122_3 (aI @u122_4 @u122_5))) (aI (aI @u122_6 (aI @u122_7 @u122_8)) (aI @u122_9 (aI @u122_10 @u122_11))))
end
/-- A method's cells. -/
def fM (nm : List UInt8) (st : Int) (x : Value) : List Value := [S nm, .int .i64 st, x]
/-- A method's value: its changes are the slice x. -/
abbrev mV (nm : List UInt8) (st : Int) (x : Value) : Value := .agg ⟨fM nm st x⟩
theorem fMg (nm : List UInt8) (st : Int) (x : Value) : (∀ v, (fM nm st x).getD 0 v = S nm) ∧ (∀ v, (fM nm st x).getD 1 v = .int .i64 st) ∧ (∀ v, (fM nm st x).getD 2 v = x) ∧ (fM nm st x).length = 3 := ⟨fun _ => rfl, fun _ => rfl, fun _ => rfl, rfl⟩
theorem fM_one (nm : List UInt8) (st : Int) (x : Value) (h : x.oneCell' = true) : ∀ u ∈ fM nm st x, u.oneCell' = true := fun u hu => by
  simp only [fM, List.mem_cons, List.not_mem_nil, or_false] at hu
  rcases hu with rfl | rfl | rfl
  · rfl
  · rfl
  · exact h
theorem Sq.one' {α : Type} {f : α → List Value} {z : Nat} {w : World} {v : Value} {l : List α} (h : Sq f z w v l) : v.oneCell' = true := by
  rcases h.2.2 with ⟨rfl, _⟩ | ⟨a, c, rfl, _⟩ <;> rfl
def WordUp (l : List UInt8) (k : Nat) : Prop := ∀ i < k, 97 ≤ (l.getD i 0).toNat ∧ (l.getD i 0).toNat ≤ 122
instance (l : List UInt8) (k : Nat) : Decidable (WordUp l k) := by unfold WordUp; infer_instance
theorem WordUp.succ {l : List UInt8} {k : Nat} (h : WordUp l k) (h1 : 97 ≤ (l.getD k 0).toNat ∧ (l.getD k 0).toNat ≤ 122) : WordUp l (k + 1) := fun i hi => by
  by_cases he : i = k
  · subst he; exact h1
  · exact h i (by omega)
def IsWord (l : List UInt8) : Prop := WordUp l l.length ∧ 1 ≤ l.length ∧ l.length ≤ 10
instance (l : List UInt8) : Decidable (IsWord l) := by unfold IsWord; infer_instance
/-- A valid method. -/
def IsMethod (nm : List UInt8) (st : Int) (cs : List (List UInt8)) : Prop := IsWord nm ∧ (3 ≤ st ∧ st ≤ 8) ∧ (1 ≤ cs.length ∧ cs.length ≤ 40) ∧ ∀ c ∈ cs, IsChange st c
instance (nm : List UInt8) (st : Int) (cs : List (List UInt8)) : Decidable (IsMethod nm st cs) := by unfold IsMethod; infer_instance
theorem iisWord_ok (l : List UInt8) (hl : l.length ≤ 1048576) (w : World) : Fn 118 [S l] w (fun v _ => v = .bool (decide (IsWord l))) := by
  (refine callsV_of mix Tryz.func118 c_iisWord ?_; simp only [↓vsd, vsn, gW, qd, qv, ev, pick, argE, zipE, ne_eq, eq_self, forall_const, implies_true, if_true, if_false, reduceIte, reduceCtorEq, Nat.reduceEqDiff, Nat.reduceAdd, Nat.reduceLT, ↓us_iisWord, r_iisWord])
  refine m_upto l.length (fun k vs w' => vs = [.int .i64 k] ∧ WordUp l k ∧ Ext w w') ⟨rfl, fun i hi => absurd hi (Nat.not_lt_zero i), Ext.refl _⟩ ?_
  rintro k vs w1 hk ⟨rfl, hup, hx⟩
  by_cases hlt : k < l.length
  · have hltI : (k : Int) < l.length := by omega
    have hltJ : ¬ (l.length : Int) ≤ k := by omega
    simp only [↓vsd, vsn, gW, qd, qv, ev, pick, argE, zipE, ne_eq, eq_self, forall_const, implies_true, if_true, if_false, reduceIte, reduceCtorEq, Nat.reduceEqDiff, Nat.reduceAdd, Nat.reduceLT, ↓us_iisWord, r_iisWord, hltI, hltJ]
    have hcl := (l.getD k 0).toNat_lt
    refine ⟨by omega, fun _ => by omega, fun hbad => ⟨hx, ?_⟩, fun hgood => ⟨inR_i64 (by omega), UpTo.next hlt ⟨rfl, hup.succ (by omega), hx⟩⟩⟩
    have : ¬ IsWord l := fun h => by have := h.1 k hlt; omega
    simp only [this, decide_false]
  · obtain rfl : k = l.length := by omega
    have hltI : ¬ (l.length : Int) < l.length := by omega
    simp only [↓vsd, vsn, gW, qd, qv, ev, pick, argE, zipE, ne_eq, eq_self, forall_const, implies_true, if_true, if_false, reduceIte, reduceCtorEq, Nat.reduceEqDiff, Nat.reduceAdd, Nat.reduceLT, ↓us_iisWord, r_iisWord, hltI]
    refine ⟨hx, ?_⟩
    rw [← Bool.decide_and]
    congr 1
    exact propext ⟨fun h => ⟨hup, by omega, by omega⟩, fun h => ⟨by have := h.2.1; omega, by have := h.2.2; omega⟩⟩
theorem sl4Name_ok (l : List UInt8) (hl : l.length ≤ 1048576) (w : World) : Fn 114 [S l] w (fun v _ => v = .bool (decide (IsWord l))) := by
  (refine callsV_of mix Tryz.func114 c_sl4Name ?_; simp only [↓vsd, vsn, gW, qd, qv, ev, pick, argE, zipE, ne_eq, eq_self, forall_const, implies_true, if_true, if_false, reduceIte, reduceCtorEq, Nat.reduceEqDiff, Nat.reduceAdd, Nat.reduceLT, ↓us_sl4Name, r_sl4Name])
  refine m_upto l.length (fun k vs w' => vs = [.int .i64 k] ∧ WordUp l k ∧ Ext w w') ⟨rfl, fun i hi => absurd hi (Nat.not_lt_zero i), Ext.refl _⟩ ?_
  rintro k vs w1 hk ⟨rfl, hup, hx⟩
  by_cases hlt : k < l.length
  · have hltI : (k : Int) < l.length := by omega
    have hltJ : ¬ (l.length : Int) ≤ k := by omega
    simp only [↓vsd, vsn, gW, qd, qv, ev, pick, argE, zipE, ne_eq, eq_self, forall_const, implies_true, if_true, if_false, reduceIte, reduceCtorEq, Nat.reduceEqDiff, Nat.reduceAdd, Nat.reduceLT, ↓us_sl4Name, r_sl4Name, hltI, hltJ]
    have hcl := (l.getD k 0).toNat_lt
    refine ⟨by omega, fun _ => by omega, fun hbad => ⟨hx, ?_⟩, fun hgood => ⟨inR_i64 (by omega), UpTo.next hlt ⟨rfl, hup.succ (by omega), hx⟩⟩⟩
    have : ¬ IsWord l := fun h => by have := h.1 k hlt; omega
    simp only [this, decide_false]
  · obtain rfl : k = l.length := by omega
    have hltI : ¬ (l.length : Int) < l.length := by omega
    simp only [↓vsd, vsn, gW, qd, qv, ev, pick, argE, zipE, ne_eq, eq_self, forall_const, implies_true, if_true, if_false, reduceIte, reduceCtorEq, Nat.reduceEqDiff, Nat.reduceAdd, Nat.reduceLT, ↓us_sl4Name, r_sl4Name, hltI]
    refine m_call (sl1In_ok _ _ _ _) ?_
    rintro _ w2 hx2 rfl
    simp only [↓vsd, vsn, gW, qd, qv, ev, pick, argE, zipE, ne_eq, eq_self, forall_const, implies_true, if_true, if_false, reduceIte, reduceCtorEq, Nat.reduceEqDiff, Nat.reduceAdd, Nat.reduceLT, ↓us_sl4Name, r_sl4Name]
    refine ⟨hx.trans hx2, ?_⟩
    rw [← Bool.decide_and]
    congr 1
    exact propext ⟨fun h => ⟨hup, by omega, by omega⟩, fun h => ⟨by have := h.2.1; omega, by have := h.2.2; omega⟩⟩
theorem iareChanges_ok (n : Int) (v : Value) (cs : List (List UInt8)) (hs : ∀ c ∈ cs, c.length ≤ 1048576) (hl : cs.length ≤ 1000000000) (w : World) (h : Sq fS 1 w v cs) : Fn 119 [.int .i64 n, v] w (fun r _ => r = .bool (decide ((1 ≤ cs.length ∧ cs.length ≤ 40) ∧ ∀ c ∈ cs, IsChange n c))) := by
  (refine callsV_of mix Tryz.func119 c_iareChanges ?_; simp only [↓vsd, vsn, gW, qd, qv, ev, pick, argE, zipE, ne_eq, eq_self, forall_const, implies_true, if_true, if_false, reduceIte, reduceCtorEq, Nat.reduceEqDiff, Nat.reduceAdd, Nat.reduceLT, ↓us_iareChanges, r_iareChanges])
  simp only [↓vsd, vsn, gW, qd, qv, ev, pick, argE, zipE, ne_eq, eq_self, forall_const, implies_true, if_true, if_false, reduceIte, reduceCtorEq, Nat.reduceEqDiff, Nat.reduceAdd, Nat.reduceLT, ↓us_iareChanges, r_iareChanges, h.facts]
  refine ⟨fun hbad => ⟨Ext.refl _, ?_⟩, fun hgood => ?_⟩
  · have : ¬ ((1 ≤ cs.length ∧ cs.length ≤ 40) ∧ ∀ c ∈ cs, IsChange n c) := fun hh => by have := hh.1; omega
    simp only [this, decide_false]
  refine m_upto cs.length (fun k vs w' => vs = [.int .i64 k] ∧ (∀ c ∈ cs.take k, IsChange n c) ∧ Ext w w') ⟨rfl, by simp, Ext.refl _⟩ ?_
  rintro k vs w1 hk ⟨rfl, hall, hx⟩
  have hq := h.ext hx
  by_cases hlt : k < cs.length
  · have hltI : (k : Int) < cs.length := by omega
    have hltJ : ¬ (cs.length : Int) ≤ k := by omega
    simp only [↓vsd, vsn, gW, qd, qv, ev, pick, argE, zipE, ne_eq, eq_self, forall_const, implies_true, if_true, if_false, reduceIte, reduceCtorEq, Nat.reduceEqDiff, Nat.reduceAdd, Nat.reduceLT, ↓us_iareChanges, r_iareChanges, hq.facts, hq.at1 [] hlt, hltI, hltJ]
    refine ⟨by omega, m_call (iGoodChange_ok n _ (hs _ (getD_mem [] hlt)) _) ?_⟩
    rintro _ w2 hx2 rfl
    simp only [↓vsd, vsn, gW, qd, qv, ev, pick, argE, zipE, ne_eq, eq_self, forall_const, implies_true, if_true, if_false, reduceIte, reduceCtorEq, Nat.reduceEqDiff, Nat.reduceAdd, Nat.reduceLT, ↓us_iareChanges, r_iareChanges]
    refine ⟨fun hbad => ⟨hx.trans hx2, ?_⟩, fun hg => ⟨inR_i64 (by omega), UpTo.next hlt ⟨rfl, fun c hc => ?_, hx.trans hx2⟩⟩⟩
    · have : ¬ ((1 ≤ cs.length ∧ cs.length ≤ 40) ∧ ∀ c ∈ cs, IsChange n c) := fun hh => hbad (hh.2 _ (getD_mem [] hlt))
      simp only [this, decide_false]
    · rcases mem_take (d := []) hlt hc with h | rfl
      · exact hall c h
      · exact hg
  · obtain rfl : k = cs.length := by omega
    have hltI : ¬ (cs.length : Int) < cs.length := by omega
    simp only [↓vsd, vsn, gW, qd, qv, ev, pick, argE, zipE, ne_eq, eq_self, forall_const, implies_true, if_true, if_false, reduceIte, reduceCtorEq, Nat.reduceEqDiff, Nat.reduceAdd, Nat.reduceLT, ↓us_iareChanges, r_iareChanges, hltI]
    rw [List.take_length] at hall
    exact ⟨hx, by simp only [decide_eq_true (show (1 ≤ cs.length ∧ cs.length ≤ 40) ∧ ∀ c ∈ cs, IsChange n c from ⟨by omega, hall⟩)]⟩
theorem iGoodMethod_ok (nm : List UInt8) (st : Int) (v : Value) (cs : List (List UInt8)) (hnm : nm.length ≤ 1048576) (hs : ∀ c ∈ cs, c.length ≤ 1048576) (hl : cs.length ≤ 1000000000) (w : World) (h : Sq fS 1 w v cs) : Fn 63 [mV nm st v] w (fun r _ => r = .bool (decide (IsMethod nm st cs))) := by
  (refine callsV_of mix Tryz.func63 c_iGoodMethod ?_; simp only [↓vsd, vsn, gW, qd, qv, ev, pick, argE, zipE, ne_eq, eq_self, forall_const, implies_true, if_true, if_false, reduceIte, reduceCtorEq, Nat.reduceEqDiff, Nat.reduceAdd, Nat.reduceLT, ↓us_iGoodMethod, r_iGoodMethod])
  refine m_al ?_
  rintro b w1 hb hblk hx1 hs1
  have h1 : Blk w1 b (fM nm st v) 25 := hblk
  have hq1 := h.ext hx1
  simp only [↓vsd, vsn, gW, qd, qv, ev, pick, argE, zipE, ne_eq, eq_self, forall_const, implies_true, if_true, if_false, reduceIte, reduceCtorEq, Nat.reduceEqDiff, Nat.reduceAdd, Nat.reduceLT, ↓us_iGoodMethod, r_iGoodMethod, h1.facts, fMg]
  refine m_call (iisWord_ok nm (by omega) _) ?_
  rintro _ w2 hx2 rfl
  have h2 := h1.ext hx2
  simp only [↓vsd, vsn, gW, qd, qv, ev, pick, argE, zipE, ne_eq, eq_self, forall_const, implies_true, if_true, if_false, reduceIte, reduceCtorEq, Nat.reduceEqDiff, Nat.reduceAdd, Nat.reduceLT, ↓us_iGoodMethod, r_iGoodMethod, h2.facts, fMg]
  have hx12 := hx1.trans hx2
  refine ⟨fun hw => ?_, fun hw => ⟨hx12, ?_⟩⟩
  · refine m_call (iareChanges_ok st v cs hs hl _ (h.ext hx12)) ?_
    rintro _ w3 hx3 rfl
    simp only [↓vsd, vsn, gW, qd, qv, ev, pick, argE, zipE, ne_eq, eq_self, forall_const, implies_true, if_true, if_false, reduceIte, reduceCtorEq, Nat.reduceEqDiff, Nat.reduceAdd, Nat.reduceLT, ↓us_iGoodMethod, r_iGoodMethod]
    refine ⟨hx12.trans hx3, ?_⟩
    rw [← Bool.decide_and]
    congr 1
    refine propext ⟨fun hh => ⟨hw, ?_, hh.2.1, hh.2.2⟩, fun hh => ⟨hw, hh.2.2.1, hh.2.2.2⟩⟩
    exact (hh.2.2 _ (getD_mem [] (show 0 < cs.length by have := hh.2.1; omega))).1
  · have : ¬ IsMethod nm st cs := fun hh => hw hh.1
    simp only [this, decide_false]
theorem sl4Good_ok (nm : List UInt8) (st : Int) (v : Value) (cs : List (List UInt8)) (hnm : nm.length ≤ 1048576) (hs : ∀ c ∈ cs, c.length ≤ 1048576) (hl : cs.length ≤ 1000000000) (w : World) (h : Sq fS 1 w v cs) : Fn 57 [mV nm st v] w (fun r _ => r = .bool (decide (IsMethod nm st cs))) := by
  (refine callsV_of mix Tryz.func57 c_sl4Good ?_; simp only [↓vsd, vsn, gW, qd, qv, ev, pick, argE, zipE, ne_eq, eq_self, forall_const, implies_true, if_true, if_false, reduceIte, reduceCtorEq, Nat.reduceEqDiff, Nat.reduceAdd, Nat.reduceLT, ↓us_sl4Good, r_sl4Good])
  refine m_al ?_
  rintro b w1 hb hblk hx1 hs1
  have h1 : Blk w1 b (fM nm st v) 25 := hblk
  have hq1 := h.ext hx1
  simp only [↓vsd, vsn, gW, qd, qv, ev, pick, argE, zipE, ne_eq, eq_self, forall_const, implies_true, if_true, if_false, reduceIte, reduceCtorEq, Nat.reduceEqDiff, Nat.reduceAdd, Nat.reduceLT, ↓us_sl4Good, r_sl4Good, h1.facts, fMg, hq1.facts]
  refine m_upto cs.length (fun k vs w' => vs = [.int .i64 k] ∧ (∀ c ∈ cs.take k, IsChange st c) ∧ Ext w1 w') ⟨rfl, by simp, Ext.refl _⟩ ?_
  rintro k vs w2 hk ⟨rfl, hall, hx⟩
  have hq := hq1.ext hx
  have h2 := h1.ext hx
  have hx2 := hx1.trans hx
  by_cases hlt : k < cs.length
  · have hltI : (k : Int) < cs.length := by omega
    have hltJ : ¬ (cs.length : Int) ≤ k := by omega
    simp only [↓vsd, vsn, gW, qd, qv, ev, pick, argE, zipE, ne_eq, eq_self, forall_const, implies_true, if_true, if_false, reduceIte, reduceCtorEq, Nat.reduceEqDiff, Nat.reduceAdd, Nat.reduceLT, ↓us_sl4Good, r_sl4Good, hq.facts, hq.at1 [] hlt, hltI, hltJ, h2.facts, fMg]
    refine ⟨by omega, m_call (sl2Change_ok st _ (hs _ (getD_mem [] hlt)) _) ?_⟩
    rintro _ w3 hx3 rfl
    simp only [↓vsd, vsn, gW, qd, qv, ev, pick, argE, zipE, ne_eq, eq_self, forall_const, implies_true, if_true, if_false, reduceIte, reduceCtorEq, Nat.reduceEqDiff, Nat.reduceAdd, Nat.reduceLT, ↓us_sl4Good, r_sl4Good]
    refine ⟨fun hbad => ⟨hx2.trans hx3, ?_⟩, fun hg => ⟨inR_i64 (by omega), UpTo.next hlt ⟨rfl, fun c hc => ?_, hx.trans hx3⟩⟩⟩
    · have : ¬ IsMethod nm st cs := fun hh => hbad (hh.2.2.2 _ (getD_mem [] hlt))
      simp only [this, decide_false]
    · rcases mem_take (d := []) hlt hc with h | rfl
      · exact hall c h
      · exact hg
  · obtain rfl : k = cs.length := by omega
    have hltI : ¬ (cs.length : Int) < cs.length := by omega
    simp only [↓vsd, vsn, gW, qd, qv, ev, pick, argE, zipE, ne_eq, eq_self, forall_const, implies_true, if_true, if_false, reduceIte, reduceCtorEq, Nat.reduceEqDiff, Nat.reduceAdd, Nat.reduceLT, ↓us_sl4Good, r_sl4Good, hltI, h2.facts, fMg]
    rw [List.take_length] at hall
    refine m_call (sl4Name_ok nm (by omega) _) ?_
    rintro _ w3 hx3 rfl
    have h3 := h2.ext hx3
    simp only [↓vsd, vsn, gW, qd, qv, ev, pick, argE, zipE, ne_eq, eq_self, forall_const, implies_true, if_true, if_false, reduceIte, reduceCtorEq, Nat.reduceEqDiff, Nat.reduceAdd, Nat.reduceLT, ↓us_sl4Good, r_sl4Good, h3.facts, fMg]
    refine ⟨fun hw => ?_, fun hw => ?_⟩
    · refine m_call (sl1In_ok _ _ _ _) ?_
      rintro _ w4 hx4 rfl
      have h4 := h3.ext hx4
      have hq4 := (hq.ext hx3).ext hx4
      simp only [↓vsd, vsn, gW, qd, qv, ev, pick, argE, zipE, ne_eq, eq_self, forall_const, implies_true, if_true, if_false, reduceIte, reduceCtorEq, Nat.reduceEqDiff, Nat.reduceAdd, Nat.reduceLT, ↓us_sl4Good, r_sl4Good, h4.facts, fMg, hq4.facts]
      refine ⟨fun hh => ?_, fun hh => ⟨((hx2.trans hx3).trans hx4), ?_⟩⟩
      · refine m_call (sl1In_ok _ _ _ _) ?_
        rintro _ w5 hx5 rfl
        simp only [↓vsd, vsn, gW, qd, qv, ev, pick, argE, zipE, ne_eq, eq_self, forall_const, implies_true, if_true, if_false, reduceIte, reduceCtorEq, Nat.reduceEqDiff, Nat.reduceAdd, Nat.reduceLT, ↓us_sl4Good, r_sl4Good]
        refine ⟨((hx2.trans hx3).trans hx4).trans hx5, ?_⟩
        simp only [← Bool.decide_and]
        congr 1
        exact propext ⟨fun h5 => ⟨hh.1, hh.2, by omega, hall⟩, fun h5 => ⟨hh, by have := h5.2.2.1; omega⟩⟩
      · have : ¬ IsMethod nm st cs := fun h5 => hh ⟨h5.1, h5.2.1⟩
        simp only [this, decide_false]
    · have : ¬ IsMethod nm st cs := fun h5 => hw h5.1
      exact ⟨hx2.trans hx3, by simp only [this, decide_false]⟩
/-- A row and the rows under the first changes. -/
def rowsU (l : List UInt8) (cs : List (List UInt8)) (k : Nat) : List (List UInt8) := (List.range k).map fun i => underL l (cs.take i)
theorem Own.one {α : Type} {f : α → List Value} {z E B : Nat} {w : World} {a : α} {b : Nat} {cs : List Value} (hz : ∀ a, (f a).length = z) (hb : Blk w b cs E) (e : cs = f a) (hB : B ≤ b) : Own f z E B w (.slice (some ⟨b, 0, none⟩) 1 1) [a] :=
  ⟨hz, .inr ⟨b, 1, cs, rfl, hB, hb, Nat.le_refl _, by decide, by rw [e, hz, Nat.one_mul], by rw [e]; simp only [List.length_singleton, Nat.one_mul, List.flatMap_cons, List.flatMap_nil, List.append_nil]; rw [← hz a, List.take_length]⟩⟩
theorem rowsU_len (l : List UInt8) (cs : List (List UInt8)) (k : Nat) : (rowsU l cs k).length = k := by simp [rowsU]
theorem rowsU_get (l : List UInt8) (cs : List (List UInt8)) (k i : Nat) (h : i < k) : (rowsU l cs k).getD i [] = underL l (cs.take i) := by
  unfold rowsU
  rw [List.getD_eq_getElem?_getD, List.getElem?_map, List.getElem?_range h]; rfl
theorem irowsUnder_ok (l : List UInt8) (v : Value) (cs : List (List UInt8)) (n : Int) (hl : IsRow l) (hcs : ∀ c ∈ cs, IsChange n c) (hlen : cs.length ≤ 40) (w : World) (h : Sq fS 1 w v cs) : Fn 135 [S l, v] w (fun r w' => Own fS 1 9 w.heap.size w' r (rowsU l cs (cs.length + 1))) := by
  (refine callsV_of mix Tryz.func135 c_irowsUnder ?_; simp only [↓vsd, vsn, gW, qd, qv, ev, pick, argE, zipE, ne_eq, eq_self, forall_const, implies_true, if_true, if_false, reduceIte, reduceCtorEq, Nat.reduceEqDiff, Nat.reduceAdd, Nat.reduceLT, ↓us_irowsUnder, r_irowsUnder])
  refine m_bsl (one_el rfl) ?_
  rintro b w1 hb hblk hx1 hs1
  simp only [↓vsd, vsn, gW, qd, qv, ev, pick, argE, zipE, ne_eq, eq_self, forall_const, implies_true, if_true, if_false, reduceIte, reduceCtorEq, Nat.reduceEqDiff, Nat.reduceAdd, Nat.reduceLT, ↓us_irowsUnder, r_irowsUnder, h.facts]
  refine m_upto cs.length (fun k vs w' => ∃ x, vs = [S (underL l (cs.take k)), x, .int .i64 k] ∧ Own fS 1 9 w.heap.size w' x (rowsU l cs (k + 1)) ∧ Ext w w') ⟨_, rfl, ?_, hx1⟩ ?_
  · exact (Own.one fS_len hblk rfl (by omega)).to rfl
  rintro k vs w2 hk ⟨x, rfl, ho, hx⟩
  have hq := h.ext hx
  by_cases hlt : k < cs.length
  · have hltI : (k : Int) < cs.length := by omega
    have hltJ : ¬ (cs.length : Int) ≤ k := by omega
    have hc := hcs _ (getD_mem [] hlt)
    have hcl := hc.len
    have hn := hc.1
    simp only [↓vsd, vsn, gW, qd, qv, ev, pick, argE, zipE, ne_eq, eq_self, forall_const, implies_true, if_true, if_false, reduceIte, reduceCtorEq, Nat.reduceEqDiff, Nat.reduceAdd, Nat.reduceLT, ↓us_irowsUnder, r_irowsUnder, hq.facts, hq.at1 [] hlt, hltI, hltJ]
    refine ⟨by omega, m_call (iapply_ok _ _ (underL_row _ hl) (by omega) hc.dig _) ?_⟩
    rintro _ w3 hx3 rfl
    simp only [↓vsd, vsn, gW, qd, qv, ev, pick, argE, zipE, ne_eq, eq_self, forall_const, implies_true, if_true, if_false, reduceIte, reduceCtorEq, Nat.reduceEqDiff, Nat.reduceAdd, Nat.reduceLT, ↓us_irowsUnder, r_irowsUnder]
    refine m_bsl (one_el rfl) ?_
    rintro b4 w4 hb4 hblk4 hx4 hs4
    simp only [↓vsd, vsn, gW, qd, qv, ev, pick, argE, zipE, ne_eq, eq_self, forall_const, implies_true, if_true, if_false, reduceIte, reduceCtorEq, Nat.reduceEqDiff, Nat.reduceAdd, Nat.reduceLT, ↓us_irowsUnder, r_irowsUnder]
    have hx34 := hx3.trans hx4
    have hrl : (rowsU l cs (k + 1)).length = k + 1 := by simp [rowsU]
    refine m_app (ho.ext hx34) (Sq.one fS_len hblk4 rfl) fS_one (by decide) (by rw [hrl]; simp; omega) (by decide) ((hx.trans hx34).size) ?_
    rintro x5 w5 ho5 hg5
    simp only [↓vsd, vsn, gW, qd, qv, ev, pick, argE, zipE, ne_eq, eq_self, forall_const, implies_true, if_true, if_false, reduceIte, reduceCtorEq, Nat.reduceEqDiff, Nat.reduceAdd, Nat.reduceLT, ↓us_irowsUnder, r_irowsUnder]
    have hs := underL_snoc l cs k hlt
    exact ⟨inR_i64 (by omega), UpTo.next hlt ⟨x5, by rw [hs]; rfl, ho5.to (by rw [← hs]; simp [rowsU, List.range_succ]), (ho.ext hx34).grown (hx.trans hx34) (Nat.le_refl _) hg5⟩⟩
  · obtain rfl : k = cs.length := by omega
    have hltI : ¬ (cs.length : Int) < cs.length := by omega
    simp only [↓vsd, vsn, gW, qd, qv, ev, pick, argE, zipE, ne_eq, eq_self, forall_const, implies_true, if_true, if_false, reduceIte, reduceCtorEq, Nat.reduceEqDiff, Nat.reduceAdd, Nat.reduceLT, ↓us_irowsUnder, r_irowsUnder, hltI]
    exact ⟨hx, ho⟩
theorem sl4Lead_ok (l : List UInt8) (v : Value) (cs : List (List UInt8)) (n : Int) (hl : IsRow l) (hcs : ∀ c ∈ cs, IsChange n c) (hlen : cs.length ≤ 40) (w : World) (h : Sq fS 1 w v cs) : Fn 122 [v, S l] w (fun r w' => ∃ x, r = .tuple ⟨[x, S (underL l cs)]⟩ ∧ Own fS 1 9 w.heap.size w' x (rowsU l cs cs.length)) := by
  (refine callsV_of mix Tryz.func122 c_sl4Lead ?_; simp only [↓vsd, vsn, gW, qd, qv, ev, pick, argE, zipE, ne_eq, eq_self, forall_const, implies_true, if_true, if_false, reduceIte, reduceCtorEq, Nat.reduceEqDiff, Nat.reduceAdd, Nat.reduceLT, ↓us_sl4Lead, r_sl4Lead])
  simp only [↓vsd, vsn, gW, qd, qv, ev, pick, argE, zipE, ne_eq, eq_self, forall_const, implies_true, if_true, if_false, reduceIte, reduceCtorEq, Nat.reduceEqDiff, Nat.reduceAdd, Nat.reduceLT, ↓us_sl4Lead, r_sl4Lead, h.facts]
  refine m_upto cs.length (fun k vs w' => ∃ x, vs = [x, S (underL l (cs.take k)), .int .i64 k] ∧ Own fS 1 9 w.heap.size w' x (rowsU l cs k) ∧ Ext w w') ⟨_, rfl, Own.nil fS_len, Ext.refl _⟩ ?_
  rintro k vs w2 hk ⟨x, rfl, ho, hx⟩
  have hq := h.ext hx
  by_cases hlt : k < cs.length
  · have hltI : (k : Int) < cs.length := by omega
    have hltJ : ¬ (cs.length : Int) ≤ k := by omega
    have hc := hcs _ (getD_mem [] hlt)
    have hcl := hc.len
    have hn := hc.1
    simp only [↓vsd, vsn, gW, qd, qv, ev, pick, argE, zipE, ne_eq, eq_self, forall_const, implies_true, if_true, if_false, reduceIte, reduceCtorEq, Nat.reduceEqDiff, Nat.reduceAdd, Nat.reduceLT, ↓us_sl4Lead, r_sl4Lead, hq.facts, hq.at1 [] hlt, hltI, hltJ]
    refine ⟨by omega, m_bsl (one_el rfl) ?_⟩
    rintro b4 w4 hb4 hblk4 hx4 hs4
    simp only [↓vsd, vsn, gW, qd, qv, ev, pick, argE, zipE, ne_eq, eq_self, forall_const, implies_true, if_true, if_false, reduceIte, reduceCtorEq, Nat.reduceEqDiff, Nat.reduceAdd, Nat.reduceLT, ↓us_sl4Lead, r_sl4Lead]
    have hrl : (rowsU l cs k).length = k := by simp [rowsU]
    refine m_app (ho.ext hx4) (Sq.one fS_len hblk4 rfl) fS_one (by decide) (by rw [hrl]; simp; omega) (by decide) ((hx.trans hx4).size) ?_
    rintro x5 w5 ho5 hg5
    have hx5 := (ho.ext hx4).grown (hx.trans hx4) (Nat.le_refl _) hg5
    simp only [↓vsd, vsn, gW, qd, qv, ev, pick, argE, zipE, ne_eq, eq_self, forall_const, implies_true, if_true, if_false, reduceIte, reduceCtorEq, Nat.reduceEqDiff, Nat.reduceAdd, Nat.reduceLT, ↓us_sl4Lead, r_sl4Lead]
    refine m_call (sl2Apply_ok _ _ (underL_row _ hl) (by omega) _) ?_
    rintro _ w6 hx6 rfl
    simp only [↓vsd, vsn, gW, qd, qv, ev, pick, argE, zipE, ne_eq, eq_self, forall_const, implies_true, if_true, if_false, reduceIte, reduceCtorEq, Nat.reduceEqDiff, Nat.reduceAdd, Nat.reduceLT, ↓us_sl4Lead, r_sl4Lead]
    have hs := underL_snoc l cs k hlt
    exact ⟨inR_i64 (by omega), UpTo.next hlt ⟨x5, by rw [hs]; rfl, (ho5.to (by simp [rowsU, List.range_succ])).ext hx6, hx5.trans hx6⟩⟩
  · obtain rfl : k = cs.length := by omega
    have hltI : ¬ (cs.length : Int) < cs.length := by omega
    simp only [↓vsd, vsn, gW, qd, qv, ev, pick, argE, zipE, ne_eq, eq_self, forall_const, implies_true, if_true, if_false, reduceIte, reduceCtorEq, Nat.reduceEqDiff, Nat.reduceAdd, Nat.reduceLT, ↓us_sl4Lead, r_sl4Lead, hltI]
    exact ⟨hx, x, by rw [List.take_length], ho⟩
theorem ileadHead_ok (nm : List UInt8) (st : Int) (v : Value) (cs : List (List UInt8)) (hm : IsMethod nm st cs) (w : World) (h : Sq fS 1 w v cs) : Fn 146 [mV nm st v] w (fun r _ => r = S (underL (roundsL st.toNat) cs)) := by
  (refine callsV_of mix Tryz.func146 c_ileadHead ?_; simp only [↓vsd, vsn, gW, qd, qv, ev, pick, argE, zipE, ne_eq, eq_self, forall_const, implies_true, if_true, if_false, reduceIte, reduceCtorEq, Nat.reduceEqDiff, Nat.reduceAdd, Nat.reduceLT, ↓us_ileadHead, r_ileadHead])
  refine m_al ?_
  rintro b w1 hb hblk hx1 hs1
  have h1 : Blk w1 b (fM nm st v) 25 := hblk
  have hq1 := h.ext hx1
  simp only [↓vsd, vsn, gW, qd, qv, ev, pick, argE, zipE, ne_eq, eq_self, forall_const, implies_true, if_true, if_false, reduceIte, reduceCtorEq, Nat.reduceEqDiff, Nat.reduceAdd, Nat.reduceLT, ↓us_ileadHead, r_ileadHead, h1.facts, fMg]
  obtain ⟨s, rfl⟩ : ∃ s : Nat, st = s := ⟨st.toNat, by have := hm.2.1; omega⟩
  have hs := hm.2.1
  have hd1 : Ext w1 w1.drew := dr (Ext.refl _)
  refine m_call (irounds_ok s (by omega) _) ?_
  rintro _ w2 hx2 rfl
  have hx12 := ud hx2
  have h2 := h1.ext hx12
  simp only [↓vsd, vsn, gW, qd, qv, ev, pick, argE, zipE, ne_eq, eq_self, forall_const, implies_true, if_true, if_false, reduceIte, reduceCtorEq, Nat.reduceEqDiff, Nat.reduceAdd, Nat.reduceLT, ↓us_ileadHead, r_ileadHead, h2.facts, fMg]
  have hrow := roundsL_row s (by omega)
  refine m_call (irowsUnder_ok _ v cs s hrow hm.2.2.2 hm.2.2.1.2 _ (hq1.ext hx12)) ?_
  rintro x w3 hx3 ho3
  have hlen := rowsU_len (roundsL s) cs (cs.length + 1)
  have hI : ((cs.length + 1 : Nat) : Int) - 1 = (cs.length : Nat) := by omega
  have hge := rowsU_get (roundsL s) cs (cs.length + 1) cs.length (by omega)
  rw [List.take_length] at hge
  have hlt : cs.length < (rowsU (roundsL s) cs (cs.length + 1)).length := by omega
  simp only [↓vsd, vsn, gW, qd, qv, ev, pick, argE, zipE, ne_eq, eq_self, forall_const, implies_true, if_true, if_false, reduceIte, reduceCtorEq, Nat.reduceEqDiff, Nat.reduceAdd, Nat.reduceLT, ↓us_ileadHead, r_ileadHead, ho3.sq.facts, hlen, hI, ho3.sq.at1 [] hlt, hge]
  exact ⟨inR_i64 (by have := hm.2.2.1; omega), by omega, hx1.trans (hx12.trans hx3)⟩
end Go.Proofs.YthopbkemkfjebaaGreat
