/-
  Methods: what a good one is, its lead's rows, its lead head.
  Conditions: none.
-/
import Derived.Test.YtnincmnkdjlndaaA10
set_option linter.unusedSimpArgs false
set_option linter.unusedVariables false
set_option linter.defProp false
namespace Go.Proofs.Ytnincmnkdjlndaa
open Go Go.RowKit
section
variable (P : Program) (k : KT) (e : Env) (w : World)
abbrev b254_1 : X := (.cond (.t 18) (.seq (.reg [2] (.c (.q 2 [] (.mv (.c (.bool false)))) .nil)) .ret) .skip)
def t254_1 := b254_1
theorem u254_1 : vcK P t254_1 k e w = vcK P b254_1 k e w := rfl
abbrev b254_2 : X := (.seq (.reg [0, 5, 6, 18] (.c (.q 9 [] (.mv (.t 0))) (.c (.q 10 [] (.mv (.t 3))) (.c (.q 11 [] (.idx (.t 9) (.t 10))) (.c (.q 12 [] (.bin .lss (.t 11) (.c (.int .u8 97)))) (.c (.q 13 [] (.mv (.t 12))) (.c (.q 14 [(13, false)] (.mv (.t 0))) (.c (.q 15 [(13, false)] (.mv (.t 3))) (.c (.q 16 [(13, false)] (.idx (.t 14) (.t 15))) (.c (.q 17 [(13, false)] (.bin .gtr (.t 16) (.c (.int .u8 122)))) (.c (.q 18 [] (.pick (.t 13) (.c (.bool true)) (.t 17))) .nil))))))))))) t254_1)
def t254_2 := b254_2
theorem u254_2 : vcK P t254_2 k e w = vcK P b254_2 k e w := rfl
abbrev b254_3 : X := (.reg [0, 5, 6] (.c (.q 19 [] (.bin .add (.t 6) (.c (.int .i64 1)))) (.c (.q 6 [] (.mv (.t 19))) .nil)))
def t254_3 := b254_3
theorem u254_3 : vcK P t254_3 k e w = vcK P b254_3 k e w := rfl
abbrev b254_4 : X := (.seq (.blk 1 (.seq (.reg [0, 3, 5, 6] (.c (.q 8 [] (.mv (.t 6))) (.c (.q 3 [] (.mv (.t 8))) .nil))) t254_2)) t254_3)
def t254_4 := b254_4
theorem u254_4 : vcK P t254_4 k e w = vcK P b254_4 k e w := rfl
abbrev b254_5 : X := (.seq (.cond (.t 7) .skip (.exit 0)) t254_4)
def t254_5 := b254_5
theorem u254_5 : vcK P t254_5 k e w = vcK P b254_5 k e w := rfl
abbrev b254_6 : X := (.seq (.reg [0, 5, 6, 7] (.c (.q 7 [] (.bin .lss (.t 6) (.t 5))) .nil)) t254_5)
def t254_6 := b254_6
theorem u254_6 : vcK P t254_6 k e w = vcK P b254_6 k e w := rfl
abbrev b254_7 : X := (.blk 0 (.loop [6] [0, 5] t254_6))
def t254_7 := b254_7
theorem u254_7 : vcK P t254_7 k e w = vcK P b254_7 k e w := rfl
abbrev b254_8 : X := (.seq (.reg [2] (.c (.q 20 [] (.mv (.t 0))) (.c (.q 21 [] (.len (.t 20))) (.c (.q 22 [] (.bin .geq (.t 21) (.c (.int .i64 1)))) (.c (.q 23 [] (.mv (.t 22))) (.c (.q 24 [(23, true)] (.mv (.t 0))) (.c (.q 25 [(23, true)] (.len (.t 24))) (.c (.q 26 [(23, true)] (.bin .leq (.t 25) (.c (.int .i64 10)))) (.c (.q 27 [] (.pick (.t 23) (.t 26) (.c (.bool false)))) (.c (.q 2 [] (.mv (.t 27))) .nil)))))))))) .ret)
def t254_8 := b254_8
theorem u254_8 : vcK P t254_8 k e w = vcK P b254_8 k e w := rfl
abbrev b254_9 : X := (.seq (.seq (.reg [0, 5, 6] (.c (.q 4 [] (.mv (.t 0))) (.c (.q 5 [] (.len (.t 4))) (.c (.q 6 [] (.mv (.c (.int .i64 0)))) .nil)))) t254_7) t254_8)
def t254_9 := b254_9
theorem u254_9 : vcK P t254_9 k e w = vcK P b254_9 k e w := rfl
abbrev b254_0 : X := (.seq (.reg [0] (.c (.q 2 [] (.mv (.c (.bool false)))) .nil)) t254_9)
def x_iisWord := b254_0
theorem u254_0 : vcK P x_iisWord k e w = vcK P b254_0 k e w := rfl
def r_iisWord : List XO := [(.mv (.t 2))]
theorem c_iisWord : convF Try.prog [147, 148, 152, 160, 162, 163, 170, 178, 206, 208, 210, 224, 233, 235, 236, 251, 264, 265, 268, 270, 287, 322] Try.f254 [([0], []), ([0, 5, 6], []), ([6], [0, 5]), ([0, 5, 6, 7], []), ([0, 3, 5, 6], []), ([0, 5, 6, 18], []), ([2], []), ([0, 5, 6], []), ([2], [])] = some (x_iisWord, r_iisWord) := by kernel_rfl
def us_iisWord :=  (aI (aI (aI @u254_0 @u254_1) (aI @u254_2 (aI @u254_3 @u254_4))) (aI (aI @u254_5 @u254_6) (aI @u254_7 (aI @u254_8 @u254_9))))
abbrev b258_1 : X := (.cond (.t 7) .skip (.exit 0))
def t258_1 := b258_1
theorem u258_1 : vcK P t258_1 k e w = vcK P b258_1 k e w := rfl
abbrev b258_2 : X := (.cond (.t 19) (.seq (.reg [2] (.c (.q 2 [] (.mv (.c (.bool false)))) .nil)) .ret) .skip)
def t258_2 := b258_2
theorem u258_2 : vcK P t258_2 k e w = vcK P b258_2 k e w := rfl
abbrev b258_3 : X := (.reg [0, 3] (.c (.q 8 [] (.mv (.t 3))) (.c (.q 9 [] (.bin .add (.t 8) (.c (.int .i64 1)))) (.c (.q 3 [] (.mv (.t 9))) .nil))))
def t258_3 := b258_3
theorem u258_3 : vcK P t258_3 k e w = vcK P b258_3 k e w := rfl
abbrev b258_4 : X := (.seq (.blk 1 (.seq (.reg [0, 3, 19] (.c (.q 10 [] (.mv (.t 0))) (.c (.q 11 [] (.mv (.t 3))) (.c (.q 12 [] (.idx (.t 10) (.t 11))) (.c (.q 13 [] (.bin .lss (.t 12) (.c (.int .u8 97)))) (.c (.q 14 [] (.mv (.t 13))) (.c (.q 15 [(14, false)] (.mv (.t 0))) (.c (.q 16 [(14, false)] (.mv (.t 3))) (.c (.q 17 [(14, false)] (.idx (.t 15) (.t 16))) (.c (.q 18 [(14, false)] (.bin .gtr (.t 17) (.c (.int .u8 122)))) (.c (.q 19 [] (.pick (.t 14) (.c (.bool true)) (.t 18))) .nil))))))))))) t258_2)) t258_3)
def t258_4 := b258_4
theorem u258_4 : vcK P t258_4 k e w = vcK P b258_4 k e w := rfl
abbrev b258_5 : X := (.seq (.seq (.reg [0, 3, 7] (.c (.q 4 [] (.mv (.t 3))) (.c (.q 5 [] (.mv (.t 0))) (.c (.q 6 [] (.len (.t 5))) (.c (.q 7 [] (.bin .lss (.t 4) (.t 6))) .nil))))) t258_1) t258_4)
def t258_5 := b258_5
theorem u258_5 : vcK P t258_5 k e w = vcK P b258_5 k e w := rfl
abbrev b258_6 : X := (.blk 0 (.loop [3] [0] t258_5))
def t258_6 := b258_6
theorem u258_6 : vcK P t258_6 k e w = vcK P b258_6 k e w := rfl
abbrev b258_7 : X := (.seq (.reg [2] (.c (.q 20 [] (.mv (.t 0))) (.c (.q 21 [] (.len (.t 20))) (.c (.e (some 22) [] (.call false 149 [(.t 21), (.c (.int .i64 1)), (.c (.int .i64 10))])) (.c (.q 2 [] (.mv (.t 22))) .nil))))) .ret)
def t258_7 := b258_7
theorem u258_7 : vcK P t258_7 k e w = vcK P b258_7 k e w := rfl
abbrev b258_8 : X := (.seq (.seq (.reg [0, 3] (.c (.q 3 [] (.mv (.c (.int .i64 0)))) .nil)) t258_6) t258_7)
def t258_8 := b258_8
theorem u258_8 : vcK P t258_8 k e w = vcK P b258_8 k e w := rfl
abbrev b258_0 : X := (.seq (.reg [0] (.c (.q 2 [] (.mv (.c (.bool false)))) .nil)) t258_8)
def x_sl4Name := b258_0
theorem u258_0 : vcK P x_sl4Name k e w = vcK P b258_0 k e w := rfl
def r_sl4Name : List XO := [(.mv (.t 2))]
theorem c_sl4Name : convF Try.prog [147, 148, 152, 160, 162, 163, 170, 178, 206, 208, 210, 224, 233, 235, 236, 251, 264, 265, 268, 270, 287, 322] Try.f258 [([0], []), ([0, 3], []), ([3], [0]), ([0, 3, 7], []), ([0, 3, 19], []), ([2], []), ([0, 3], []), ([2], [])] = some (x_sl4Name, r_sl4Name) := by kernel_rfl
def us_sl4Name :=  (aI (aI (aI @u258_0 @u258_1) (aI @u258_2 @u258_3)) (aI (aI @u258_4 @u258_5) (aI @u258_6 (aI @u258_7 @u258_8))))
abbrev b155_1 : X := (.cond (.t 14) (.seq (.reg [4] (.c (.q 4 [] (.mv (.c (.bool false)))) .nil)) .ret) .skip)
def t155_1 := b155_1
theorem u155_1 : vcK P t155_1 k e w = vcK P b155_1 k e w := rfl
abbrev b155_2 : X := (.cond (.t 24) (.seq (.reg [4] (.c (.q 4 [] (.mv (.c (.bool false)))) .nil)) .ret) .skip)
def t155_2 := b155_2
theorem u155_2 : vcK P t155_2 k e w = vcK P b155_2 k e w := rfl
abbrev b155_3 : X := (.seq (.reg [0, 15, 16, 17, 24] (.c (.q 21 [] (.mv (.t 0))) (.c (.q 22 [] (.mv (.t 6))) (.c (.e (some 23) [] (.call false 41 [(.t 21), (.t 22)])) (.c (.q 24 [] (.not (.t 23))) .nil))))) t155_2)
def t155_3 := b155_3
theorem u155_3 : vcK P t155_3 k e w = vcK P b155_3 k e w := rfl
abbrev b155_4 : X := (.reg [0, 15, 16, 17] (.c (.q 25 [] (.bin .add (.t 17) (.c (.int .i64 1)))) (.c (.q 17 [] (.mv (.t 25))) .nil)))
def t155_4 := b155_4
theorem u155_4 : vcK P t155_4 k e w = vcK P b155_4 k e w := rfl
abbrev b155_5 : X := (.seq (.blk 1 (.seq (.reg [0, 6, 15, 16, 17] (.c (.q 19 [] (.ia 1 (.t 15) (.t 17))) (.c (.q 20 [] (.ld (.t 19))) (.c (.q 6 [] (.mv (.t 20))) .nil)))) t155_3)) t155_4)
def t155_5 := b155_5
theorem u155_5 : vcK P t155_5 k e w = vcK P b155_5 k e w := rfl
abbrev b155_6 : X := (.seq (.cond (.t 18) .skip (.exit 0)) t155_5)
def t155_6 := b155_6
theorem u155_6 : vcK P t155_6 k e w = vcK P b155_6 k e w := rfl
abbrev b155_7 : X := (.seq (.reg [0, 15, 16, 17, 18] (.c (.q 18 [] (.bin .lss (.t 17) (.t 16))) .nil)) t155_6)
def t155_7 := b155_7
theorem u155_7 : vcK P t155_7 k e w = vcK P b155_7 k e w := rfl
abbrev b155_8 : X := (.blk 0 (.loop [17] [0, 15, 16] t155_7))
def t155_8 := b155_8
theorem u155_8 : vcK P t155_8 k e w = vcK P b155_8 k e w := rfl
abbrev b155_9 : X := (.seq (.reg [4] (.c (.q 4 [] (.mv (.c (.bool true)))) .nil)) .ret)
def t155_9 := b155_9
theorem u155_9 : vcK P t155_9 k e w = vcK P b155_9 k e w := rfl
abbrev b155_10 : X := (.seq (.seq (.reg [0, 15, 16, 17] (.c (.q 15 [] (.mv (.t 1))) (.c (.q 16 [] (.lens (.t 15))) (.c (.q 17 [] (.mv (.c (.int .i64 0)))) .nil)))) t155_8) t155_9)
def t155_10 := b155_10
theorem u155_10 : vcK P t155_10 k e w = vcK P b155_10 k e w := rfl
abbrev b155_11 : X := (.seq (.seq (.reg [0, 1, 14] (.c (.q 7 [] (.mv (.t 1))) (.c (.q 8 [] (.lens (.t 7))) (.c (.q 9 [] (.bin .lss (.t 8) (.c (.int .i64 1)))) (.c (.q 10 [] (.mv (.t 9))) (.c (.q 11 [(10, false)] (.mv (.t 1))) (.c (.q 12 [(10, false)] (.lens (.t 11))) (.c (.q 13 [(10, false)] (.bin .gtr (.t 12) (.c (.int .i64 40)))) (.c (.q 14 [] (.pick (.t 10) (.c (.bool true)) (.t 13))) .nil))))))))) t155_1) t155_10)
def t155_11 := b155_11
theorem u155_11 : vcK P t155_11 k e w = vcK P b155_11 k e w := rfl
abbrev b155_0 : X := (.seq (.reg [0, 1] (.c (.q 4 [] (.mv (.c (.bool false)))) .nil)) t155_11)
def x_iareChanges := b155_0
theorem u155_0 : vcK P x_iareChanges k e w = vcK P b155_0 k e w := rfl
def r_iareChanges : List XO := [(.mv (.t 4))]
theorem c_iareChanges : convF Try.prog [147, 148, 152, 160, 162, 163, 170, 178, 206, 208, 210, 224, 233, 235, 236, 251, 264, 265, 268, 270, 287, 322] Try.f155 [([0, 1], []), ([0, 1, 14], []), ([4], []), ([0, 15, 16, 17], []), ([17], [0, 15, 16]), ([0, 15, 16, 17, 18], []), ([0, 6, 15, 16, 17], []), ([0, 15, 16, 17, 24], []), ([4], []), ([0, 15, 16, 17], []), ([4], [])] = some (x_iareChanges, r_iareChanges) := by kernel_rfl
def us_iareChanges :=  (aI (aI (aI @u155_0 (aI @u155_1 @u155_2)) (aI @u155_3 (aI @u155_4 @u155_5))) (aI (aI @u155_6 (aI @u155_7 @u155_8)) (aI @u155_9 (aI @u155_10 @u155_11))))
abbrev b135_1 : X := (.seq (.reg [2] (.c (.q 3 [] (.fa 0 (.t 1))) (.c (.q 4 [] (.ld (.t 3))) (.c (.e (some 5) [] (.call false 254 [(.t 4)])) (.c (.q 6 [] (.mv (.t 5))) (.c (.q 7 [(6, true)] (.fa 1 (.t 1))) (.c (.q 8 [(6, true)] (.ld (.t 7))) (.c (.q 9 [(6, true)] (.fa 2 (.t 1))) (.c (.q 10 [(6, true)] (.ld (.t 9))) (.c (.e (some 11) [(6, true)] (.call false 155 [(.t 8), (.t 10)])) (.c (.q 12 [] (.pick (.t 6) (.t 11) (.c (.bool false)))) (.c (.q 2 [] (.mv (.t 12))) .nil)))))))))))) .ret)
def t135_1 := b135_1
theorem u135_1 : vcK P t135_1 k e w = vcK P b135_1 k e w := rfl
abbrev b135_0 : X := (.seq (.reg [1] (.c (.e (some 1) [] (.box 26 (.t 0))) (.c (.q 2 [] (.mv (.c (.bool false)))) .nil))) t135_1)
def x_iGoodMethod := b135_0
theorem u135_0 : vcK P x_iGoodMethod k e w = vcK P b135_0 k e w := rfl
def r_iGoodMethod : List XO := [(.mv (.t 2))]
theorem c_iGoodMethod : convF Try.prog [147, 148, 152, 160, 162, 163, 170, 178, 206, 208, 210, 224, 233, 235, 236, 251, 264, 265, 268, 270, 287, 322] Try.f135 [([1], []), ([2], [])] = some (x_iGoodMethod, r_iGoodMethod) := by kernel_rfl
def us_iGoodMethod :=  (aI @u135_0 @u135_1)
abbrev b137_1 : X := (.cond (.t 16) (.seq (.reg [2] (.c (.q 2 [] (.mv (.c (.bool false)))) .nil)) .ret) .skip)
def t137_1 := b137_1
theorem u137_1 : vcK P t137_1 k e w = vcK P b137_1 k e w := rfl
abbrev b137_2 : X := (.seq (.reg [1, 6, 7, 8, 16] (.c (.q 12 [] (.fa 1 (.t 1))) (.c (.q 13 [] (.ld (.t 12))) (.c (.q 14 [] (.mv (.t 4))) (.c (.e (some 15) [] (.call false 257 [(.t 13), (.t 14)])) (.c (.q 16 [] (.not (.t 15))) .nil)))))) t137_1)
def t137_2 := b137_2
theorem u137_2 : vcK P t137_2 k e w = vcK P b137_2 k e w := rfl
abbrev b137_3 : X := (.reg [1, 6, 7, 8] (.c (.q 17 [] (.bin .add (.t 8) (.c (.int .i64 1)))) (.c (.q 8 [] (.mv (.t 17))) .nil)))
def t137_3 := b137_3
theorem u137_3 : vcK P t137_3 k e w = vcK P b137_3 k e w := rfl
abbrev b137_4 : X := (.seq (.blk 1 (.seq (.reg [1, 4, 6, 7, 8] (.c (.q 10 [] (.ia 1 (.t 6) (.t 8))) (.c (.q 11 [] (.ld (.t 10))) (.c (.q 4 [] (.mv (.t 11))) .nil)))) t137_2)) t137_3)
def t137_4 := b137_4
theorem u137_4 : vcK P t137_4 k e w = vcK P b137_4 k e w := rfl
abbrev b137_5 : X := (.seq (.cond (.t 9) .skip (.exit 0)) t137_4)
def t137_5 := b137_5
theorem u137_5 : vcK P t137_5 k e w = vcK P b137_5 k e w := rfl
abbrev b137_6 : X := (.seq (.reg [1, 6, 7, 8, 9] (.c (.q 9 [] (.bin .lss (.t 8) (.t 7))) .nil)) t137_5)
def t137_6 := b137_6
theorem u137_6 : vcK P t137_6 k e w = vcK P b137_6 k e w := rfl
abbrev b137_7 : X := (.blk 0 (.loop [8] [1, 6, 7] t137_6))
def t137_7 := b137_7
theorem u137_7 : vcK P t137_7 k e w = vcK P b137_7 k e w := rfl
abbrev b137_8 : X := (.seq (.reg [2] (.c (.q 18 [] (.fa 0 (.t 1))) (.c (.q 19 [] (.ld (.t 18))) (.c (.e (some 20) [] (.call false 258 [(.t 19)])) (.c (.q 21 [] (.mv (.t 20))) (.c (.q 22 [(21, true)] (.fa 1 (.t 1))) (.c (.q 23 [(21, true)] (.ld (.t 22))) (.c (.e (some 24) [(21, true)] (.call false 149 [(.t 23), (.c (.int .i64 3)), (.c (.int .i64 8))])) (.c (.q 25 [] (.pick (.t 21) (.t 24) (.c (.bool false)))) (.c (.q 26 [] (.mv (.t 25))) (.c (.q 27 [(26, true)] (.fa 2 (.t 1))) (.c (.q 28 [(26, true)] (.ld (.t 27))) (.c (.q 29 [(26, true)] (.lens (.t 28))) (.c (.e (some 30) [(26, true)] (.call false 149 [(.t 29), (.c (.int .i64 1)), (.c (.int .i64 40))])) (.c (.q 31 [] (.pick (.t 26) (.t 30) (.c (.bool false)))) (.c (.q 2 [] (.mv (.t 31))) .nil)))))))))))))))) .ret)
def t137_8 := b137_8
theorem u137_8 : vcK P t137_8 k e w = vcK P b137_8 k e w := rfl
abbrev b137_9 : X := (.seq (.seq (.reg [1, 6, 7, 8] (.c (.q 5 [] (.fa 2 (.t 1))) (.c (.q 6 [] (.ld (.t 5))) (.c (.q 7 [] (.lens (.t 6))) (.c (.q 8 [] (.mv (.c (.int .i64 0)))) .nil))))) t137_7) t137_8)
def t137_9 := b137_9
theorem u137_9 : vcK P t137_9 k e w = vcK P b137_9 k e w := rfl
abbrev b137_0 : X := (.seq (.reg [1] (.c (.e (some 1) [] (.box 26 (.t 0))) (.c (.q 2 [] (.mv (.c (.bool false)))) .nil))) t137_9)
def x_sl4Good := b137_0
theorem u137_0 : vcK P x_sl4Good k e w = vcK P b137_0 k e w := rfl
def r_sl4Good : List XO := [(.mv (.t 2))]
theorem c_sl4Good : convF Try.prog [147, 148, 152, 160, 162, 163, 170, 178, 206, 208, 210, 224, 233, 235, 236, 251, 264, 265, 268, 270, 287, 322] Try.f137 [([1], []), ([1, 6, 7, 8], []), ([8], [1, 6, 7]), ([1, 6, 7, 8, 9], []), ([1, 4, 6, 7, 8], []), ([1, 6, 7, 8, 16], []), ([2], []), ([1, 6, 7, 8], []), ([2], [])] = some (x_sl4Good, r_sl4Good) := by kernel_rfl
def us_sl4Good :=  (aI (aI (aI @u137_0 @u137_1) (aI @u137_2 (aI @u137_3 @u137_4))) (aI (aI @u137_5 @u137_6) (aI @u137_7 (aI @u137_8 @u137_9))))
abbrev b255_1 : X := (.reg [0, 5, 10, 11, 12] (.c (.q 19 [] (.mv (.t 5))) (.c (.q 20 [] (.mv (.t 0))) (.c (.e (some 21) [] (.bsl 9 1 [(.t 20)])) (.c (.e (some 22) [] (.app 24 9 1 16 [(S [])] 24 (.t 19) (.t 21))) (.c (.q 5 [] (.mv (.t 22))) .nil))))))
def t255_1 := b255_1
theorem u255_1 : vcK P t255_1 k e w = vcK P b255_1 k e w := rfl
abbrev b255_2 : X := (.seq (.reg [0, 5, 10, 11, 12] (.c (.q 16 [] (.mv (.t 0))) (.c (.q 17 [] (.mv (.t 7))) (.c (.e (some 18) [] (.call false 214 [(.t 16), (.t 17)])) (.c (.q 0 [] (.mv (.t 18))) .nil))))) t255_1)
def t255_2 := b255_2
theorem u255_2 : vcK P t255_2 k e w = vcK P b255_2 k e w := rfl
abbrev b255_3 : X := (.reg [0, 5, 10, 11, 12] (.c (.q 23 [] (.bin .add (.t 12) (.c (.int .i64 1)))) (.c (.q 12 [] (.mv (.t 23))) .nil)))
def t255_3 := b255_3
theorem u255_3 : vcK P t255_3 k e w = vcK P b255_3 k e w := rfl
abbrev b255_4 : X := (.seq (.blk 1 (.seq (.reg [0, 5, 7, 10, 11, 12] (.c (.q 14 [] (.ia 1 (.t 10) (.t 12))) (.c (.q 15 [] (.ld (.t 14))) (.c (.q 7 [] (.mv (.t 15))) .nil)))) t255_2)) t255_3)
def t255_4 := b255_4
theorem u255_4 : vcK P t255_4 k e w = vcK P b255_4 k e w := rfl
abbrev b255_5 : X := (.seq (.cond (.t 13) .skip (.exit 0)) t255_4)
def t255_5 := b255_5
theorem u255_5 : vcK P t255_5 k e w = vcK P b255_5 k e w := rfl
abbrev b255_6 : X := (.seq (.reg [0, 5, 10, 11, 12, 13] (.c (.q 13 [] (.bin .lss (.t 12) (.t 11))) .nil)) t255_5)
def t255_6 := b255_6
theorem u255_6 : vcK P t255_6 k e w = vcK P b255_6 k e w := rfl
abbrev b255_7 : X := (.blk 0 (.loop [0, 5, 12] [10, 11] t255_6))
def t255_7 := b255_7
theorem u255_7 : vcK P t255_7 k e w = vcK P b255_7 k e w := rfl
abbrev b255_8 : X := (.seq (.reg [4] (.c (.q 24 [] (.mv (.t 5))) (.c (.q 4 [] (.mv (.t 24))) .nil))) .ret)
def t255_8 := b255_8
theorem u255_8 : vcK P t255_8 k e w = vcK P b255_8 k e w := rfl
abbrev b255_9 : X := (.seq (.seq (.reg [0, 5, 10, 11, 12] (.c (.q 10 [] (.mv (.t 1))) (.c (.q 11 [] (.lens (.t 10))) (.c (.q 12 [] (.mv (.c (.int .i64 0)))) .nil)))) t255_7) t255_8)
def t255_9 := b255_9
theorem u255_9 : vcK P t255_9 k e w = vcK P b255_9 k e w := rfl
abbrev b255_10 : X := (.seq (.reg [0, 1, 5] (.c (.q 8 [] (.mv (.t 0))) (.c (.e (some 9) [] (.bsl 9 1 [(.t 8)])) (.c (.q 5 [] (.mv (.t 9))) .nil)))) t255_9)
def t255_10 := b255_10
theorem u255_10 : vcK P t255_10 k e w = vcK P b255_10 k e w := rfl
abbrev b255_0 : X := (.seq (.reg [0, 1] (.c (.q 4 [] (.mv (.c (.slice none 0 0)))) .nil)) t255_10)
def x_irowsUnder := b255_0
theorem u255_0 : vcK P x_irowsUnder k e w = vcK P b255_0 k e w := rfl
def r_irowsUnder : List XO := [(.mv (.t 4))]
theorem c_irowsUnder : convF Try.prog [147, 148, 152, 160, 162, 163, 170, 178, 206, 208, 210, 224, 233, 235, 236, 251, 264, 265, 268, 270, 287, 322] Try.f255 [([0, 1], []), ([0, 1, 5], []), ([0, 5, 10, 11, 12], []), ([0, 5, 12], [10, 11]), ([0, 5, 10, 11, 12, 13], []), ([0, 5, 7, 10, 11, 12], []), ([0, 5, 10, 11, 12], []), ([0, 5, 10, 11, 12], []), ([0, 5, 10, 11, 12], []), ([4], [])] = some (x_irowsUnder, r_irowsUnder) := by kernel_rfl
def us_irowsUnder :=  (aI (aI (aI @u255_0 @u255_1) (aI @u255_2 (aI @u255_3 @u255_4))) (aI (aI @u255_5 (aI @u255_6 @u255_7)) (aI @u255_8 (aI @u255_9 @u255_10))))
abbrev b146_1 : X := (.seq (.reg [2] (.c (.q 10 [] (.mv (.t 3))) (.c (.q 11 [] (.mv (.t 3))) (.c (.q 12 [] (.lens (.t 11))) (.c (.q 13 [] (.bin .sub (.t 12) (.c (.int .i64 1)))) (.c (.q 14 [] (.ia 1 (.t 10) (.t 13))) (.c (.q 15 [] (.ld (.t 14))) (.c (.q 2 [] (.mv (.t 15))) .nil)))))))) .ret)
def t146_1 := b146_1
theorem u146_1 : vcK P t146_1 k e w = vcK P b146_1 k e w := rfl
abbrev b146_2 : X := (.seq (.drw [3] (.c (.q 4 [] (.fa 1 (.t 1))) (.c (.q 5 [] (.ld (.t 4))) (.c (.q 7 [] (.fa 2 (.t 1))) (.c (.q 8 [] (.ld (.t 7))) (.c (.e (some 6) [] (.call false 142 [(.t 5)])) (.c (.e (some 9) [] (.call false 255 [(.t 6), (.t 8)])) (.c (.q 3 [] (.mv (.t 9))) .nil)))))))) t146_1)
def t146_2 := b146_2
theorem u146_2 : vcK P t146_2 k e w = vcK P b146_2 k e w := rfl
abbrev b146_0 : X := (.seq (.reg [1] (.c (.e (some 1) [] (.box 26 (.t 0))) (.c (.q 2 [] (.mv (.s []))) .nil))) t146_2)
def x_ileadHead := b146_0
theorem u146_0 : vcK P x_ileadHead k e w = vcK P b146_0 k e w := rfl
def r_ileadHead : List XO := [(.mv (.t 2))]
theorem c_ileadHead : convF Try.prog [147, 148, 152, 160, 162, 163, 170, 178, 206, 208, 210, 224, 233, 235, 236, 251, 264, 265, 268, 270, 287, 322] Try.f146 [([1], []), ([3], []), ([2], [])] = some (x_ileadHead, r_ileadHead) := by kernel_rfl
def us_ileadHead :=  (aI @u146_0 (aI @u146_1 @u146_2))
abbrev b259_1 : X := (.reg [6, 7, 11, 12, 13] (.c (.q 21 [] (.mv (.t 7))) (.c (.q 22 [] (.mv (.t 9))) (.c (.e (some 23) [] (.call false 209 [(.t 21), (.t 22)])) (.c (.q 7 [] (.mv (.t 23))) .nil)))))
def t259_1 := b259_1
theorem u259_1 : vcK P t259_1 k e w = vcK P b259_1 k e w := rfl
abbrev b259_2 : X := (.seq (.reg [6, 7, 9, 11, 12, 13] (.c (.q 17 [] (.mv (.t 6))) (.c (.q 18 [] (.mv (.t 7))) (.c (.e (some 19) [] (.bsl 9 1 [(.t 18)])) (.c (.e (some 20) [] (.app 24 9 1 16 [(S [])] 24 (.t 17) (.t 19))) (.c (.q 6 [] (.mv (.t 20))) .nil)))))) t259_1)
def t259_2 := b259_2
theorem u259_2 : vcK P t259_2 k e w = vcK P b259_2 k e w := rfl
abbrev b259_3 : X := (.reg [6, 7, 11, 12, 13] (.c (.q 24 [] (.bin .add (.t 13) (.c (.int .i64 1)))) (.c (.q 13 [] (.mv (.t 24))) .nil)))
def t259_3 := b259_3
theorem u259_3 : vcK P t259_3 k e w = vcK P b259_3 k e w := rfl
abbrev b259_4 : X := (.seq (.blk 1 (.seq (.reg [6, 7, 9, 11, 12, 13] (.c (.q 15 [] (.ia 1 (.t 11) (.t 13))) (.c (.q 16 [] (.ld (.t 15))) (.c (.q 9 [] (.mv (.t 16))) .nil)))) t259_2)) t259_3)
def t259_4 := b259_4
theorem u259_4 : vcK P t259_4 k e w = vcK P b259_4 k e w := rfl
abbrev b259_5 : X := (.seq (.cond (.t 14) .skip (.exit 0)) t259_4)
def t259_5 := b259_5
theorem u259_5 : vcK P t259_5 k e w = vcK P b259_5 k e w := rfl
abbrev b259_6 : X := (.seq (.reg [6, 7, 11, 12, 13, 14] (.c (.q 14 [] (.bin .lss (.t 13) (.t 12))) .nil)) t259_5)
def t259_6 := b259_6
theorem u259_6 : vcK P t259_6 k e w = vcK P b259_6 k e w := rfl
abbrev b259_7 : X := (.blk 0 (.loop [6, 7, 13] [11, 12] t259_6))
def t259_7 := b259_7
theorem u259_7 : vcK P t259_7 k e w = vcK P b259_7 k e w := rfl
abbrev b259_8 : X := (.seq (.reg [4, 5] (.c (.q 25 [] (.mv (.t 6))) (.c (.q 26 [] (.mv (.t 7))) (.c (.q 4 [] (.mv (.t 25))) (.c (.q 5 [] (.mv (.t 26))) .nil))))) .ret)
def t259_8 := b259_8
theorem u259_8 : vcK P t259_8 k e w = vcK P b259_8 k e w := rfl
abbrev b259_9 : X := (.seq (.seq (.reg [6, 7, 11, 12, 13] (.c (.q 11 [] (.mv (.t 0))) (.c (.q 12 [] (.lens (.t 11))) (.c (.q 13 [] (.mv (.c (.int .i64 0)))) .nil)))) t259_7) t259_8)
def t259_9 := b259_9
theorem u259_9 : vcK P t259_9 k e w = vcK P b259_9 k e w := rfl
abbrev b259_10 : X := (.seq (.reg [0, 6, 7] (.c (.q 10 [] (.mv (.t 1))) (.c (.q 7 [] (.mv (.t 10))) .nil))) t259_9)
def t259_10 := b259_10
theorem u259_10 : vcK P t259_10 k e w = vcK P b259_10 k e w := rfl
abbrev b259_11 : X := (.seq (.reg [0, 1, 6] (.c (.q 6 [] (.mv (.c (.slice none 0 0)))) .nil)) t259_10)
def t259_11 := b259_11
theorem u259_11 : vcK P t259_11 k e w = vcK P b259_11 k e w := rfl
abbrev b259_0 : X := (.seq (.reg [0, 1] (.c (.q 4 [] (.mv (.c (.slice none 0 0)))) (.c (.q 5 [] (.mv (.s []))) .nil))) t259_11)
def x_sl4Lead := b259_0
theorem u259_0 : vcK P x_sl4Lead k e w = vcK P b259_0 k e w := rfl
def r_sl4Lead : List XO := [(.mv (.t 4)), (.mv (.t 5))]
theorem c_sl4Lead : convF Try.prog [147, 148, 152, 160, 162, 163, 170, 178, 206, 208, 210, 224, 233, 235, 236, 251, 264, 265, 268, 270, 287, 322] Try.f259 [([0, 1], []), ([0, 1, 6], []), ([0, 6, 7], []), ([6, 7, 11, 12, 13], []), ([6, 7, 13], [11, 12]), ([6, 7, 11, 12, 13, 14], []), ([6, 7, 9, 11, 12, 13], []), ([6, 7, 9, 11, 12, 13], []), ([6, 7, 11, 12, 13], []), ([6, 7, 11, 12, 13], []), ([4, 5], [])] = some (x_sl4Lead, r_sl4Lead) := by kernel_rfl
def us_sl4Lead :=  (aI (aI (aI @u259_0 (aI @u259_1 @u259_2)) (aI @u259_3 (aI @u259_4 @u259_5))) (aI (aI @u259_6 (aI @u259_7 @u259_8)) (aI @u259_9 (aI @u259_10 @u259_11))))
abbrev b307_1 : X := (.seq (.reg [2] (.c (.q 14 [] (.mv (.t 4))) (.c (.q 2 [] (.mv (.t 14))) .nil))) .ret)
def t307_1 := b307_1
theorem u307_1 : vcK P t307_1 k e w = vcK P b307_1 k e w := rfl
abbrev b307_2 : X := (.seq (.drw [4] (.c (.q 6 [] (.fa 2 (.t 1))) (.c (.q 7 [] (.ld (.t 6))) (.c (.q 8 [] (.fa 1 (.t 1))) (.c (.q 9 [] (.ld (.t 8))) (.c (.e (some 10) [] (.call false 260 [(.t 9)])) (.c (.e (some 11) [] (.call false 259 [(.t 7), (.t 10)])) (.c (.q 5 [] (.mv (.t 11))) (.c (.q 12 [] (.ext 0 (.t 5))) (.c (.q 13 [] (.ext 1 (.t 5))) (.c (.q 3 [] (.mv (.t 12))) (.c (.q 4 [] (.mv (.t 13))) .nil)))))))))))) t307_1)
def t307_2 := b307_2
theorem u307_2 : vcK P t307_2 k e w = vcK P b307_2 k e w := rfl
abbrev b307_0 : X := (.seq (.reg [1] (.c (.e (some 1) [] (.box 26 (.t 0))) (.c (.q 2 [] (.mv (.s []))) .nil))) t307_2)
def x_sl4Head := b307_0
theorem u307_0 : vcK P x_sl4Head k e w = vcK P b307_0 k e w := rfl
def r_sl4Head : List XO := [(.mv (.t 2))]
theorem c_sl4Head : convF Try.prog [147, 148, 152, 160, 162, 163, 170, 178, 206, 208, 210, 224, 233, 235, 236, 251, 264, 265, 268, 270, 287, 322] Try.f307 [([1], []), ([4], []), ([2], [])] = some (x_sl4Head, r_sl4Head) := by kernel_rfl
def us_sl4Head :=  (aI @u307_0 (aI @u307_1 @u307_2))
abbrev b239_1 : X := (.cond (.t 11) (.seq (.reg [4] (.c (.q 4 [] (.mv (.c (.int .i64 (-1))))) .nil)) .ret) .skip)
def t239_1 := b239_1
theorem u239_1 : vcK P t239_1 k e w = vcK P b239_1 k e w := rfl
abbrev b239_2 : X := (.cond (.t 17) (.seq (.reg [4] (.c (.q 4 [] (.mv (.c (.int .i64 (-1))))) .nil)) .ret) .skip)
def t239_2 := b239_2
theorem u239_2 : vcK P t239_2 k e w = vcK P b239_2 k e w := rfl
abbrev b239_3 : X := (.seq (.reg [4] (.c (.q 18 [] (.mv (.t 1))) (.c (.q 4 [] (.mv (.t 18))) .nil))) .ret)
def t239_3 := b239_3
theorem u239_3 : vcK P t239_3 k e w = vcK P b239_3 k e w := rfl
abbrev b239_4 : X := (.seq (.seq (.reg [1, 17] (.c (.q 16 [] (.mv (.t 1))) (.c (.q 17 [] (.bin .lss (.t 16) (.c (.int .i64 0)))) .nil))) t239_2) t239_3)
def t239_4 := b239_4
theorem u239_4 : vcK P t239_4 k e w = vcK P b239_4 k e w := rfl
abbrev b239_5 : X := (.seq (.reg [1] (.c (.q 12 [] (.fa 2 (.t 2))) (.c (.q 13 [] (.ld (.t 12))) (.c (.q 14 [] (.mv (.t 1))) (.c (.e (some 15) [] (.call false 292 [(.t 13), (.t 14)])) (.c (.q 1 [] (.mv (.t 15))) .nil)))))) t239_4)
def t239_5 := b239_5
theorem u239_5 : vcK P t239_5 k e w = vcK P b239_5 k e w := rfl
abbrev b239_6 : X := (.seq (.seq (.reg [1, 2, 11] (.c (.q 10 [] (.mv (.t 1))) (.c (.q 11 [] (.bin .lss (.t 10) (.c (.int .i64 0)))) .nil))) t239_1) t239_5)
def t239_6 := b239_6
theorem u239_6 : vcK P t239_6 k e w = vcK P b239_6 k e w := rfl
abbrev b239_7 : X := (.seq (.reg [1, 2] (.c (.q 5 [] (.mv (.t 1))) (.c (.q 6 [] (.fa 0 (.t 2))) (.c (.q 7 [] (.ld (.t 6))) (.c (.q 8 [] (.len (.t 7))) (.c (.q 9 [] (.bin .sub (.t 5) (.t 8))) (.c (.q 1 [] (.mv (.t 9))) .nil))))))) t239_6)
def t239_7 := b239_7
theorem u239_7 : vcK P t239_7 k e w = vcK P b239_7 k e w := rfl
abbrev b239_0 : X := (.seq (.reg [1, 2] (.c (.e (some 2) [] (.box 164 (.t 0))) (.c (.q 4 [] (.mv (.c (.int .i64 0)))) .nil))) t239_7)
def x_lszMethod := b239_0
theorem u239_0 : vcK P x_lszMethod k e w = vcK P b239_0 k e w := rfl
def r_lszMethod : List XO := [(.mv (.t 4))]
theorem c_lszMethod : convF Try.prog [147, 148, 152, 160, 162, 163, 170, 178, 206, 208, 210, 224, 233, 235, 236, 251, 264, 265, 268, 270, 287, 322] Try.f239 [([1, 2], []), ([1, 2], []), ([1, 2, 11], []), ([4], []), ([1], []), ([1, 17], []), ([4], []), ([4], [])] = some (x_lszMethod, r_lszMethod) := by kernel_rfl
def us_lszMethod :=  (aI (aI (aI @u239_0 @u239_1) (aI @u239_2 @u239_3)) (aI (aI @u239_4 @u239_5) (aI @u239_6 @u239_7)))
abbrev b244_1 : X := (.seq (.reg [2] (.c (.q 14 [] (.lda 3 (.t 3))) (.c (.e none [] (.st 3 (.t 2) (.t 14))) .nil))) .ret)
def t244_1 := b244_1
theorem u244_1 : vcK P t244_1 k e w = vcK P b244_1 k e w := rfl
abbrev b244_2 : X := (.seq (.reg [2, 3] (.c (.q 10 [] (.fa 2 (.t 1))) (.c (.q 11 [] (.ld (.t 10))) (.c (.e (some 12) [] (.call false 297 [(.t 11)])) (.c (.q 13 [] (.fa 2 (.t 3))) (.c (.e none [] (.st 1 (.t 13) (.t 12))) .nil)))))) t244_1)
def t244_2 := b244_2
theorem u244_2 : vcK P t244_2 k e w = vcK P b244_2 k e w := rfl
abbrev b244_3 : X := (.seq (.reg [1, 2, 3] (.c (.q 7 [] (.fa 1 (.t 1))) (.c (.q 8 [] (.ld (.t 7))) (.c (.q 9 [] (.fa 1 (.t 3))) (.c (.e none [] (.st 1 (.t 9) (.t 8))) .nil))))) t244_2)
def t244_3 := b244_3
theorem u244_3 : vcK P t244_3 k e w = vcK P b244_3 k e w := rfl
abbrev b244_4 : X := (.seq (.reg [1, 2, 3] (.c (.q 4 [] (.fa 0 (.t 1))) (.c (.q 5 [] (.ld (.t 4))) (.c (.q 6 [] (.fa 0 (.t 3))) (.c (.e none [] (.st 1 (.t 6) (.t 5))) .nil))))) t244_3)
def t244_4 := b244_4
theorem u244_4 : vcK P t244_4 k e w = vcK P b244_4 k e w := rfl
abbrev b244_5 : X := (.seq (.reg [1, 2, 3] (.c (.e (some 3) [] (.al 26 [(S []), (.int .i64 0), (.slice none 0 0)])) .nil)) t244_4)
def t244_5 := b244_5
theorem u244_5 : vcK P t244_5 k e w = vcK P b244_5 k e w := rfl
abbrev b244_0 : X := (.seq (.reg [1, 2] (.c (.e (some 1) [] (.box 164 (.t 0))) (.c (.e (some 2) [] (.al 26 [(S []), (.int .i64 0), (.slice none 0 0)])) .nil))) t244_5)
def x_ltoMethod := b244_0
theorem u244_0 : vcK P x_ltoMethod k e w = vcK P b244_0 k e w := rfl
def r_ltoMethod : List XO := [(.lda 3 (.t 2))]
theorem c_ltoMethod : convF Try.prog [147, 148, 152, 160, 162, 163, 170, 178, 206, 208, 210, 224, 233, 235, 236, 251, 264, 265, 268, 270, 287, 322] Try.f244 [([1, 2], []), ([1, 2, 3], []), ([1, 2, 3], []), ([1, 2, 3], []), ([2, 3], []), ([2], [])] = some (x_ltoMethod, r_ltoMethod) := by kernel_rfl
def us_ltoMethod :=  (aI (aI @u244_0 (aI @u244_1 @u244_2)) (aI @u244_3 (aI @u244_4 @u244_5)))
abbrev b250_1 : X := (.cond (.t 9) (.seq (.reg [4] (.c (.q 4 [] (.mv (.c (.bool false)))) .nil)) .ret) .skip)
def t250_1 := b250_1
theorem u250_1 : vcK P t250_1 k e w = vcK P b250_1 k e w := rfl
abbrev b250_2 : X := (.cond (.t 14) (.seq (.reg [4] (.c (.q 4 [] (.mv (.c (.bool false)))) .nil)) .ret) .skip)
def t250_2 := b250_2
theorem u250_2 : vcK P t250_2 k e w = vcK P b250_2 k e w := rfl
abbrev b250_3 : X := (.cond (.t 20) (.seq (.reg [4] (.c (.q 4 [] (.mv (.c (.bool false)))) .nil)) .ret) .skip)
def t250_3 := b250_3
theorem u250_3 : vcK P t250_3 k e w = vcK P b250_3 k e w := rfl
abbrev b250_4 : X := (.seq (.reg [4] (.c (.q 4 [] (.mv (.c (.bool true)))) .nil)) .ret)
def t250_4 := b250_4
theorem u250_4 : vcK P t250_4 k e w = vcK P b250_4 k e w := rfl
abbrev b250_5 : X := (.seq (.seq (.reg [20] (.c (.q 15 [] (.fa 2 (.t 2))) (.c (.q 16 [] (.ld (.t 15))) (.c (.q 17 [] (.fa 2 (.t 3))) (.c (.q 18 [] (.ld (.t 17))) (.c (.e (some 19) [] (.call false 301 [(.t 16), (.t 18)])) (.c (.q 20 [] (.not (.t 19))) .nil))))))) t250_3) t250_4)
def t250_5 := b250_5
theorem u250_5 : vcK P t250_5 k e w = vcK P b250_5 k e w := rfl
abbrev b250_6 : X := (.seq (.seq (.reg [2, 3, 14] (.c (.q 10 [] (.fa 1 (.t 2))) (.c (.q 11 [] (.ld (.t 10))) (.c (.q 12 [] (.fa 1 (.t 3))) (.c (.q 13 [] (.ld (.t 12))) (.c (.q 14 [] (.bin .neq (.t 11) (.t 13))) .nil)))))) t250_2) t250_5)
def t250_6 := b250_6
theorem u250_6 : vcK P t250_6 k e w = vcK P b250_6 k e w := rfl
abbrev b250_7 : X := (.seq (.seq (.reg [2, 3, 9] (.c (.q 5 [] (.fa 0 (.t 2))) (.c (.q 6 [] (.ld (.t 5))) (.c (.q 7 [] (.fa 0 (.t 3))) (.c (.q 8 [] (.ld (.t 7))) (.c (.q 9 [] (.bin .neq (.t 6) (.t 8))) .nil)))))) t250_1) t250_6)
def t250_7 := b250_7
theorem u250_7 : vcK P t250_7 k e w = vcK P b250_7 k e w := rfl
abbrev b250_0 : X := (.seq (.reg [2, 3] (.c (.e (some 2) [] (.box 26 (.t 0))) (.c (.e (some 3) [] (.box 26 (.t 1))) (.c (.q 4 [] (.mv (.c (.bool false)))) .nil)))) t250_7)
def x_leqMethod := b250_0
theorem u250_0 : vcK P x_leqMethod k e w = vcK P b250_0 k e w := rfl
def r_leqMethod : List XO := [(.mv (.t 4))]
theorem c_leqMethod : convF Try.prog [147, 148, 152, 160, 162, 163, 170, 178, 206, 208, 210, 224, 233, 235, 236, 251, 264, 265, 268, 270, 287, 322] Try.f250 [([2, 3], []), ([2, 3, 9], []), ([4], []), ([2, 3, 14], []), ([4], []), ([20], []), ([4], []), ([4], [])] = some (x_leqMethod, r_leqMethod) := by kernel_rfl
def us_leqMethod :=  (aI (aI (aI @u250_0 @u250_1) (aI @u250_2 @u250_3)) (aI (aI @u250_4 @u250_5) (aI @u250_6 @u250_7)))
end

/-- A method's cells. -/
def fM (nm : List UInt8) (st : Int) (x : Value) : List Value := [S nm, .int .i64 st, x]
/-- A method's value: its changes are the slice x. -/
abbrev mV (nm : List UInt8) (st : Int) (x : Value) : Value := .agg ⟨fM nm st x⟩
theorem fMg (nm : List UInt8) (st : Int) (x : Value) : (∀ v, (fM nm st x).getD 0 v = S nm) ∧ (∀ v, (fM nm st x).getD 1 v = .int .i64 st) ∧ (∀ v, (fM nm st x).getD 2 v = x) ∧ (fM nm st x).length = 3 := ⟨fun _ => rfl, fun _ => rfl, fun _ => rfl, rfl⟩
theorem fM_one (nm : List UInt8) (st : Int) (x : Value) (h : x.oneCell' = true) : ∀ u ∈ fM nm st x, u.oneCell' = true := fun u hu => by
  simp only [fM, List.mem_cons, List.not_mem_nil, or_false] at hu
  rcases hu with rfl | rfl | rfl
  · rfl
  · rfl
  · exact h
theorem Sq.one' {α : Type} {f : α → List Value} {z : Nat} {w : World} {v : Value} {l : List α} (h : Sq f z w v l) : v.oneCell' = true := by
  rcases h.2.2 with ⟨rfl, _⟩ | ⟨a, c, rfl, _⟩ <;> rfl
def WordUp (l : List UInt8) (k : Nat) : Prop := ∀ i < k, 97 ≤ (l.getD i 0).toNat ∧ (l.getD i 0).toNat ≤ 122
instance (l : List UInt8) (k : Nat) : Decidable (WordUp l k) := by unfold WordUp; infer_instance
theorem WordUp.succ {l : List UInt8} {k : Nat} (h : WordUp l k) (h1 : 97 ≤ (l.getD k 0).toNat ∧ (l.getD k 0).toNat ≤ 122) : WordUp l (k + 1) := fun i hi => by
  by_cases he : i = k
  · subst he; exact h1
  · exact h i (by omega)
def IsWord (l : List UInt8) : Prop := WordUp l l.length ∧ 1 ≤ l.length ∧ l.length ≤ 10
instance (l : List UInt8) : Decidable (IsWord l) := by unfold IsWord; infer_instance
/-- A valid method. -/
def IsMethod (nm : List UInt8) (st : Int) (cs : List (List UInt8)) : Prop := IsWord nm ∧ (3 ≤ st ∧ st ≤ 8) ∧ (1 ≤ cs.length ∧ cs.length ≤ 40) ∧ ∀ c ∈ cs, IsChange st c
instance (nm : List UInt8) (st : Int) (cs : List (List UInt8)) : Decidable (IsMethod nm st cs) := by unfold IsMethod; infer_instance
theorem iisWord_ok (l : List UInt8) (hl : l.length ≤ 1048576) (w : World) : Fn 254 [S l] w (fun v _ => v = .bool (decide (IsWord l))) := by
  (refine callsV_of mix Try.func254 c_iisWord ?_; simp only [↓vsd, vsn, gW, qd, qv, ev, pick, argE, zipE, ne_eq, eq_self, forall_const, implies_true, if_true, if_false, reduceIte, reduceCtorEq, Nat.reduceEqDiff, Nat.reduceAdd, Nat.reduceLT, ↓us_iisWord, r_iisWord])
  refine m_upto l.length (fun k vs w' => vs = [.int .i64 k] ∧ WordUp l k ∧ Ext w w') ⟨rfl, fun i hi => absurd hi (Nat.not_lt_zero i), Ext.refl _⟩ ?_
  rintro k vs w1 hk ⟨rfl, hup, hx⟩
  by_cases hlt : k < l.length
  · have hltI : (k : Int) < l.length := by omega
    have hltJ : ¬ (l.length : Int) ≤ k := by omega
    simp only [↓vsd, vsn, gW, qd, qv, ev, pick, argE, zipE, ne_eq, eq_self, forall_const, implies_true, if_true, if_false, reduceIte, reduceCtorEq, Nat.reduceEqDiff, Nat.reduceAdd, Nat.reduceLT, ↓us_iisWord, r_iisWord, hltI, hltJ]
    have hcl := (l.getD k 0).toNat_lt
    refine ⟨by omega, fun _ => by omega, fun hbad => ⟨hx, ?_⟩, fun hgood => ⟨inR_i64 (by omega), UpTo.next hlt ⟨rfl, hup.succ (by omega), hx⟩⟩⟩
    have : ¬ IsWord l := fun h => by have := h.1 k hlt; omega
    simp only [this, decide_false]
  · obtain rfl : k = l.length := by omega
    have hltI : ¬ (l.length : Int) < l.length := by omega
    simp only [↓vsd, vsn, gW, qd, qv, ev, pick, argE, zipE, ne_eq, eq_self, forall_const, implies_true, if_true, if_false, reduceIte, reduceCtorEq, Nat.reduceEqDiff, Nat.reduceAdd, Nat.reduceLT, ↓us_iisWord, r_iisWord, hltI]
    refine ⟨hx, ?_⟩
    rw [← Bool.decide_and]
    congr 1
    exact propext ⟨fun h => ⟨hup, by omega, by omega⟩, fun h => ⟨by have := h.2.1; omega, by have := h.2.2; omega⟩⟩
theorem sl4Name_ok (l : List UInt8) (hl : l.length ≤ 1048576) (w : World) : Fn 258 [S l] w (fun v _ => v = .bool (decide (IsWord l))) := by
  (refine callsV_of mix Try.func258 c_sl4Name ?_; simp only [↓vsd, vsn, gW, qd, qv, ev, pick, argE, zipE, ne_eq, eq_self, forall_const, implies_true, if_true, if_false, reduceIte, reduceCtorEq, Nat.reduceEqDiff, Nat.reduceAdd, Nat.reduceLT, ↓us_sl4Name, r_sl4Name])
  refine m_upto l.length (fun k vs w' => vs = [.int .i64 k] ∧ WordUp l k ∧ Ext w w') ⟨rfl, fun i hi => absurd hi (Nat.not_lt_zero i), Ext.refl _⟩ ?_
  rintro k vs w1 hk ⟨rfl, hup, hx⟩
  by_cases hlt : k < l.length
  · have hltI : (k : Int) < l.length := by omega
    have hltJ : ¬ (l.length : Int) ≤ k := by omega
    simp only [↓vsd, vsn, gW, qd, qv, ev, pick, argE, zipE, ne_eq, eq_self, forall_const, implies_true, if_true, if_false, reduceIte, reduceCtorEq, Nat.reduceEqDiff, Nat.reduceAdd, Nat.reduceLT, ↓us_sl4Name, r_sl4Name, hltI, hltJ]
    have hcl := (l.getD k 0).toNat_lt
    refine ⟨by omega, fun _ => by omega, fun hbad => ⟨hx, ?_⟩, fun hgood => ⟨inR_i64 (by omega), UpTo.next hlt ⟨rfl, hup.succ (by omega), hx⟩⟩⟩
    have : ¬ IsWord l := fun h => by have := h.1 k hlt; omega
    simp only [this, decide_false]
  · obtain rfl : k = l.length := by omega
    have hltI : ¬ (l.length : Int) < l.length := by omega
    simp only [↓vsd, vsn, gW, qd, qv, ev, pick, argE, zipE, ne_eq, eq_self, forall_const, implies_true, if_true, if_false, reduceIte, reduceCtorEq, Nat.reduceEqDiff, Nat.reduceAdd, Nat.reduceLT, ↓us_sl4Name, r_sl4Name, hltI]
    refine m_call (sl1In_ok _ _ _ _) ?_
    rintro _ w2 hx2 rfl
    simp only [↓vsd, vsn, gW, qd, qv, ev, pick, argE, zipE, ne_eq, eq_self, forall_const, implies_true, if_true, if_false, reduceIte, reduceCtorEq, Nat.reduceEqDiff, Nat.reduceAdd, Nat.reduceLT, ↓us_sl4Name, r_sl4Name]
    refine ⟨hx.trans hx2, ?_⟩
    rw [← Bool.decide_and]
    congr 1
    exact propext ⟨fun h => ⟨hup, by omega, by omega⟩, fun h => ⟨by have := h.2.1; omega, by have := h.2.2; omega⟩⟩
theorem iareChanges_ok (n : Int) (v : Value) (cs : List (List UInt8)) (hs : ∀ c ∈ cs, c.length ≤ 1048576) (hl : cs.length ≤ 1000000000) (w : World) (h : Sq fS 1 w v cs) : Fn 155 [.int .i64 n, v] w (fun r _ => r = .bool (decide ((1 ≤ cs.length ∧ cs.length ≤ 40) ∧ ∀ c ∈ cs, IsChange n c))) := by
  (refine callsV_of mix Try.func155 c_iareChanges ?_; simp only [↓vsd, vsn, gW, qd, qv, ev, pick, argE, zipE, ne_eq, eq_self, forall_const, implies_true, if_true, if_false, reduceIte, reduceCtorEq, Nat.reduceEqDiff, Nat.reduceAdd, Nat.reduceLT, ↓us_iareChanges, r_iareChanges])
  simp only [↓vsd, vsn, gW, qd, qv, ev, pick, argE, zipE, ne_eq, eq_self, forall_const, implies_true, if_true, if_false, reduceIte, reduceCtorEq, Nat.reduceEqDiff, Nat.reduceAdd, Nat.reduceLT, ↓us_iareChanges, r_iareChanges, h.facts]
  refine ⟨fun hbad => ⟨Ext.refl _, ?_⟩, fun hgood => ?_⟩
  · have : ¬ ((1 ≤ cs.length ∧ cs.length ≤ 40) ∧ ∀ c ∈ cs, IsChange n c) := fun hh => by have := hh.1; omega
    simp only [this, decide_false]
  refine m_upto cs.length (fun k vs w' => vs = [.int .i64 k] ∧ (∀ c ∈ cs.take k, IsChange n c) ∧ Ext w w') ⟨rfl, by simp, Ext.refl _⟩ ?_
  rintro k vs w1 hk ⟨rfl, hall, hx⟩
  have hq := h.ext hx
  by_cases hlt : k < cs.length
  · have hltI : (k : Int) < cs.length := by omega
    have hltJ : ¬ (cs.length : Int) ≤ k := by omega
    simp only [↓vsd, vsn, gW, qd, qv, ev, pick, argE, zipE, ne_eq, eq_self, forall_const, implies_true, if_true, if_false, reduceIte, reduceCtorEq, Nat.reduceEqDiff, Nat.reduceAdd, Nat.reduceLT, ↓us_iareChanges, r_iareChanges, hq.facts, hq.at1 [] hlt, hltI, hltJ]
    refine ⟨by omega, m_call (iGoodChange_ok n _ (hs _ (getD_mem [] hlt)) _) ?_⟩
    rintro _ w2 hx2 rfl
    simp only [↓vsd, vsn, gW, qd, qv, ev, pick, argE, zipE, ne_eq, eq_self, forall_const, implies_true, if_true, if_false, reduceIte, reduceCtorEq, Nat.reduceEqDiff, Nat.reduceAdd, Nat.reduceLT, ↓us_iareChanges, r_iareChanges]
    refine ⟨fun hbad => ⟨hx.trans hx2, ?_⟩, fun hg => ⟨inR_i64 (by omega), UpTo.next hlt ⟨rfl, fun c hc => ?_, hx.trans hx2⟩⟩⟩
    · have : ¬ ((1 ≤ cs.length ∧ cs.length ≤ 40) ∧ ∀ c ∈ cs, IsChange n c) := fun hh => hbad (hh.2 _ (getD_mem [] hlt))
      simp only [this, decide_false]
    · rcases mem_take (d := []) hlt hc with h | rfl
      · exact hall c h
      · exact hg
  · obtain rfl : k = cs.length := by omega
    have hltI : ¬ (cs.length : Int) < cs.length := by omega
    simp only [↓vsd, vsn, gW, qd, qv, ev, pick, argE, zipE, ne_eq, eq_self, forall_const, implies_true, if_true, if_false, reduceIte, reduceCtorEq, Nat.reduceEqDiff, Nat.reduceAdd, Nat.reduceLT, ↓us_iareChanges, r_iareChanges, hltI]
    rw [List.take_length] at hall
    exact ⟨hx, by simp only [decide_eq_true (show (1 ≤ cs.length ∧ cs.length ≤ 40) ∧ ∀ c ∈ cs, IsChange n c from ⟨by omega, hall⟩)]⟩
theorem iGoodMethod_ok (nm : List UInt8) (st : Int) (v : Value) (cs : List (List UInt8)) (hnm : nm.length ≤ 1048576) (hs : ∀ c ∈ cs, c.length ≤ 1048576) (hl : cs.length ≤ 1000000000) (w : World) (h : Sq fS 1 w v cs) : Fn 135 [mV nm st v] w (fun r _ => r = .bool (decide (IsMethod nm st cs))) := by
  (refine callsV_of mix Try.func135 c_iGoodMethod ?_; simp only [↓vsd, vsn, gW, qd, qv, ev, pick, argE, zipE, ne_eq, eq_self, forall_const, implies_true, if_true, if_false, reduceIte, reduceCtorEq, Nat.reduceEqDiff, Nat.reduceAdd, Nat.reduceLT, ↓us_iGoodMethod, r_iGoodMethod])
  refine m_al ?_
  rintro b w1 hb hblk hx1 hs1
  have h1 : Blk w1 b (fM nm st v) 26 := hblk
  have hq1 := h.ext hx1
  simp only [↓vsd, vsn, gW, qd, qv, ev, pick, argE, zipE, ne_eq, eq_self, forall_const, implies_true, if_true, if_false, reduceIte, reduceCtorEq, Nat.reduceEqDiff, Nat.reduceAdd, Nat.reduceLT, ↓us_iGoodMethod, r_iGoodMethod, h1.facts, fMg]
  refine m_call (iisWord_ok nm (by omega) _) ?_
  rintro _ w2 hx2 rfl
  have h2 := h1.ext hx2
  simp only [↓vsd, vsn, gW, qd, qv, ev, pick, argE, zipE, ne_eq, eq_self, forall_const, implies_true, if_true, if_false, reduceIte, reduceCtorEq, Nat.reduceEqDiff, Nat.reduceAdd, Nat.reduceLT, ↓us_iGoodMethod, r_iGoodMethod, h2.facts, fMg]
  have hx12 := hx1.trans hx2
  refine ⟨fun hw => ?_, fun hw => ⟨hx12, ?_⟩⟩
  · refine m_call (iareChanges_ok st v cs hs hl _ (h.ext hx12)) ?_
    rintro _ w3 hx3 rfl
    simp only [↓vsd, vsn, gW, qd, qv, ev, pick, argE, zipE, ne_eq, eq_self, forall_const, implies_true, if_true, if_false, reduceIte, reduceCtorEq, Nat.reduceEqDiff, Nat.reduceAdd, Nat.reduceLT, ↓us_iGoodMethod, r_iGoodMethod]
    refine ⟨hx12.trans hx3, ?_⟩
    rw [← Bool.decide_and]
    congr 1
    refine propext ⟨fun hh => ⟨hw, ?_, hh.2.1, hh.2.2⟩, fun hh => ⟨hw, hh.2.2.1, hh.2.2.2⟩⟩
    exact (hh.2.2 _ (getD_mem [] (show 0 < cs.length by have := hh.2.1; omega))).1
  · have : ¬ IsMethod nm st cs := fun hh => hw hh.1
    simp only [this, decide_false]
theorem sl4Good_ok (nm : List UInt8) (st : Int) (v : Value) (cs : List (List UInt8)) (hnm : nm.length ≤ 1048576) (hs : ∀ c ∈ cs, c.length ≤ 1048576) (hl : cs.length ≤ 1000000000) (w : World) (h : Sq fS 1 w v cs) : Fn 137 [mV nm st v] w (fun r _ => r = .bool (decide (IsMethod nm st cs))) := by
  (refine callsV_of mix Try.func137 c_sl4Good ?_; simp only [↓vsd, vsn, gW, qd, qv, ev, pick, argE, zipE, ne_eq, eq_self, forall_const, implies_true, if_true, if_false, reduceIte, reduceCtorEq, Nat.reduceEqDiff, Nat.reduceAdd, Nat.reduceLT, ↓us_sl4Good, r_sl4Good])
  refine m_al ?_
  rintro b w1 hb hblk hx1 hs1
  have h1 : Blk w1 b (fM nm st v) 26 := hblk
  have hq1 := h.ext hx1
  simp only [↓vsd, vsn, gW, qd, qv, ev, pick, argE, zipE, ne_eq, eq_self, forall_const, implies_true, if_true, if_false, reduceIte, reduceCtorEq, Nat.reduceEqDiff, Nat.reduceAdd, Nat.reduceLT, ↓us_sl4Good, r_sl4Good, h1.facts, fMg, hq1.facts]
  refine m_upto cs.length (fun k vs w' => vs = [.int .i64 k] ∧ (∀ c ∈ cs.take k, IsChange st c) ∧ Ext w1 w') ⟨rfl, by simp, Ext.refl _⟩ ?_
  rintro k vs w2 hk ⟨rfl, hall, hx⟩
  have hq := hq1.ext hx
  have h2 := h1.ext hx
  have hx2 := hx1.trans hx
  by_cases hlt : k < cs.length
  · have hltI : (k : Int) < cs.length := by omega
    have hltJ : ¬ (cs.length : Int) ≤ k := by omega
    simp only [↓vsd, vsn, gW, qd, qv, ev, pick, argE, zipE, ne_eq, eq_self, forall_const, implies_true, if_true, if_false, reduceIte, reduceCtorEq, Nat.reduceEqDiff, Nat.reduceAdd, Nat.reduceLT, ↓us_sl4Good, r_sl4Good, hq.facts, hq.at1 [] hlt, hltI, hltJ, h2.facts, fMg]
    refine ⟨by omega, m_call (sl2Change_ok st _ (hs _ (getD_mem [] hlt)) _) ?_⟩
    rintro _ w3 hx3 rfl
    simp only [↓vsd, vsn, gW, qd, qv, ev, pick, argE, zipE, ne_eq, eq_self, forall_const, implies_true, if_true, if_false, reduceIte, reduceCtorEq, Nat.reduceEqDiff, Nat.reduceAdd, Nat.reduceLT, ↓us_sl4Good, r_sl4Good]
    refine ⟨fun hbad => ⟨hx2.trans hx3, ?_⟩, fun hg => ⟨inR_i64 (by omega), UpTo.next hlt ⟨rfl, fun c hc => ?_, hx.trans hx3⟩⟩⟩
    · have : ¬ IsMethod nm st cs := fun hh => hbad (hh.2.2.2 _ (getD_mem [] hlt))
      simp only [this, decide_false]
    · rcases mem_take (d := []) hlt hc with h | rfl
      · exact hall c h
      · exact hg
  · obtain rfl : k = cs.length := by omega
    have hltI : ¬ (cs.length : Int) < cs.length := by omega
    simp only [↓vsd, vsn, gW, qd, qv, ev, pick, argE, zipE, ne_eq, eq_self, forall_const, implies_true, if_true, if_false, reduceIte, reduceCtorEq, Nat.reduceEqDiff, Nat.reduceAdd, Nat.reduceLT, ↓us_sl4Good, r_sl4Good, hltI, h2.facts, fMg]
    rw [List.take_length] at hall
    refine m_call (sl4Name_ok nm (by omega) _) ?_
    rintro _ w3 hx3 rfl
    have h3 := h2.ext hx3
    simp only [↓vsd, vsn, gW, qd, qv, ev, pick, argE, zipE, ne_eq, eq_self, forall_const, implies_true, if_true, if_false, reduceIte, reduceCtorEq, Nat.reduceEqDiff, Nat.reduceAdd, Nat.reduceLT, ↓us_sl4Good, r_sl4Good, h3.facts, fMg]
    refine ⟨fun hw => ?_, fun hw => ?_⟩
    · refine m_call (sl1In_ok _ _ _ _) ?_
      rintro _ w4 hx4 rfl
      have h4 := h3.ext hx4
      have hq4 := (hq.ext hx3).ext hx4
      simp only [↓vsd, vsn, gW, qd, qv, ev, pick, argE, zipE, ne_eq, eq_self, forall_const, implies_true, if_true, if_false, reduceIte, reduceCtorEq, Nat.reduceEqDiff, Nat.reduceAdd, Nat.reduceLT, ↓us_sl4Good, r_sl4Good, h4.facts, fMg, hq4.facts]
      refine ⟨fun hh => ?_, fun hh => ⟨((hx2.trans hx3).trans hx4), ?_⟩⟩
      · refine m_call (sl1In_ok _ _ _ _) ?_
        rintro _ w5 hx5 rfl
        simp only [↓vsd, vsn, gW, qd, qv, ev, pick, argE, zipE, ne_eq, eq_self, forall_const, implies_true, if_true, if_false, reduceIte, reduceCtorEq, Nat.reduceEqDiff, Nat.reduceAdd, Nat.reduceLT, ↓us_sl4Good, r_sl4Good]
        refine ⟨((hx2.trans hx3).trans hx4).trans hx5, ?_⟩
        simp only [← Bool.decide_and]
        congr 1
        exact propext ⟨fun h5 => ⟨hh.1, hh.2, by omega, hall⟩, fun h5 => ⟨hh, by have := h5.2.2.1; omega⟩⟩
      · have : ¬ IsMethod nm st cs := fun h5 => hh ⟨h5.1, h5.2.1⟩
        simp only [this, decide_false]
    · have : ¬ IsMethod nm st cs := fun h5 => hw h5.1
      exact ⟨hx2.trans hx3, by simp only [this, decide_false]⟩
/-- A row and the rows under the first changes. -/
def rowsU (l : List UInt8) (cs : List (List UInt8)) (k : Nat) : List (List UInt8) := (List.range k).map fun i => underL l (cs.take i)
theorem Own.one {α : Type} {f : α → List Value} {z E B : Nat} {w : World} {a : α} {b : Nat} {cs : List Value} (hz : ∀ a, (f a).length = z) (hb : Blk w b cs E) (e : cs = f a) (hB : B ≤ b) : Own f z E B w (.slice (some ⟨b, 0, none⟩) 1 1) [a] :=
  ⟨hz, .inr ⟨b, 1, cs, rfl, hB, hb, Nat.le_refl _, by decide, by rw [e, hz, Nat.one_mul], by rw [e]; simp only [List.length_singleton, Nat.one_mul, List.flatMap_cons, List.flatMap_nil, List.append_nil]; rw [← hz a, List.take_length]⟩⟩
theorem rowsU_len (l : List UInt8) (cs : List (List UInt8)) (k : Nat) : (rowsU l cs k).length = k := by simp [rowsU]
theorem rowsU_get (l : List UInt8) (cs : List (List UInt8)) (k i : Nat) (h : i < k) : (rowsU l cs k).getD i [] = underL l (cs.take i) := by
  unfold rowsU
  rw [List.getD_eq_getElem?_getD, List.getElem?_map, List.getElem?_range h]; rfl
theorem irowsUnder_ok (l : List UInt8) (v : Value) (cs : List (List UInt8)) (n : Int) (hl : IsRow l) (hcs : ∀ c ∈ cs, IsChange n c) (hlen : cs.length ≤ 40) (w : World) (h : Sq fS 1 w v cs) : Fn 255 [S l, v] w (fun r w' => Own fS 1 9 w.heap.size w' r (rowsU l cs (cs.length + 1))) := by
  (refine callsV_of mix Try.func255 c_irowsUnder ?_; simp only [↓vsd, vsn, gW, qd, qv, ev, pick, argE, zipE, ne_eq, eq_self, forall_const, implies_true, if_true, if_false, reduceIte, reduceCtorEq, Nat.reduceEqDiff, Nat.reduceAdd, Nat.reduceLT, ↓us_irowsUnder, r_irowsUnder])
  refine m_bsl (one_el rfl) ?_
  rintro b w1 hb hblk hx1 hs1
  simp only [↓vsd, vsn, gW, qd, qv, ev, pick, argE, zipE, ne_eq, eq_self, forall_const, implies_true, if_true, if_false, reduceIte, reduceCtorEq, Nat.reduceEqDiff, Nat.reduceAdd, Nat.reduceLT, ↓us_irowsUnder, r_irowsUnder, h.facts]
  refine m_upto cs.length (fun k vs w' => ∃ x, vs = [S (underL l (cs.take k)), x, .int .i64 k] ∧ Own fS 1 9 w.heap.size w' x (rowsU l cs (k + 1)) ∧ Ext w w') ⟨_, rfl, ?_, hx1⟩ ?_
  · exact (Own.one fS_len hblk rfl (by omega)).to rfl
  rintro k vs w2 hk ⟨x, rfl, ho, hx⟩
  have hq := h.ext hx
  by_cases hlt : k < cs.length
  · have hltI : (k : Int) < cs.length := by omega
    have hltJ : ¬ (cs.length : Int) ≤ k := by omega
    have hc := hcs _ (getD_mem [] hlt)
    have hcl := hc.len
    have hn := hc.1
    simp only [↓vsd, vsn, gW, qd, qv, ev, pick, argE, zipE, ne_eq, eq_self, forall_const, implies_true, if_true, if_false, reduceIte, reduceCtorEq, Nat.reduceEqDiff, Nat.reduceAdd, Nat.reduceLT, ↓us_irowsUnder, r_irowsUnder, hq.facts, hq.at1 [] hlt, hltI, hltJ]
    refine ⟨by omega, m_call (iapply_ok _ _ (underL_row _ hl) (by omega) hc.dig _) ?_⟩
    rintro _ w3 hx3 rfl
    simp only [↓vsd, vsn, gW, qd, qv, ev, pick, argE, zipE, ne_eq, eq_self, forall_const, implies_true, if_true, if_false, reduceIte, reduceCtorEq, Nat.reduceEqDiff, Nat.reduceAdd, Nat.reduceLT, ↓us_irowsUnder, r_irowsUnder]
    refine m_bsl (one_el rfl) ?_
    rintro b4 w4 hb4 hblk4 hx4 hs4
    simp only [↓vsd, vsn, gW, qd, qv, ev, pick, argE, zipE, ne_eq, eq_self, forall_const, implies_true, if_true, if_false, reduceIte, reduceCtorEq, Nat.reduceEqDiff, Nat.reduceAdd, Nat.reduceLT, ↓us_irowsUnder, r_irowsUnder]
    have hx34 := hx3.trans hx4
    have hrl : (rowsU l cs (k + 1)).length = k + 1 := by simp [rowsU]
    refine m_app (ho.ext hx34) (Sq.one fS_len hblk4 rfl) fS_one (by decide) (by rw [hrl]; simp; omega) (by decide) ((hx.trans hx34).size) ?_
    rintro x5 w5 ho5 hg5
    simp only [↓vsd, vsn, gW, qd, qv, ev, pick, argE, zipE, ne_eq, eq_self, forall_const, implies_true, if_true, if_false, reduceIte, reduceCtorEq, Nat.reduceEqDiff, Nat.reduceAdd, Nat.reduceLT, ↓us_irowsUnder, r_irowsUnder]
    have hs := underL_snoc l cs k hlt
    exact ⟨inR_i64 (by omega), UpTo.next hlt ⟨x5, by rw [hs]; rfl, ho5.to (by rw [← hs]; simp [rowsU, List.range_succ]), (ho.ext hx34).grown (hx.trans hx34) (Nat.le_refl _) hg5⟩⟩
  · obtain rfl : k = cs.length := by omega
    have hltI : ¬ (cs.length : Int) < cs.length := by omega
    simp only [↓vsd, vsn, gW, qd, qv, ev, pick, argE, zipE, ne_eq, eq_self, forall_const, implies_true, if_true, if_false, reduceIte, reduceCtorEq, Nat.reduceEqDiff, Nat.reduceAdd, Nat.reduceLT, ↓us_irowsUnder, r_irowsUnder, hltI]
    exact ⟨hx, ho⟩
theorem sl4Lead_ok (l : List UInt8) (v : Value) (cs : List (List UInt8)) (n : Int) (hl : IsRow l) (hcs : ∀ c ∈ cs, IsChange n c) (hlen : cs.length ≤ 40) (w : World) (h : Sq fS 1 w v cs) : Fn 259 [v, S l] w (fun r w' => ∃ x, r = .tuple ⟨[x, S (underL l cs)]⟩ ∧ Own fS 1 9 w.heap.size w' x (rowsU l cs cs.length)) := by
  (refine callsV_of mix Try.func259 c_sl4Lead ?_; simp only [↓vsd, vsn, gW, qd, qv, ev, pick, argE, zipE, ne_eq, eq_self, forall_const, implies_true, if_true, if_false, reduceIte, reduceCtorEq, Nat.reduceEqDiff, Nat.reduceAdd, Nat.reduceLT, ↓us_sl4Lead, r_sl4Lead])
  simp only [↓vsd, vsn, gW, qd, qv, ev, pick, argE, zipE, ne_eq, eq_self, forall_const, implies_true, if_true, if_false, reduceIte, reduceCtorEq, Nat.reduceEqDiff, Nat.reduceAdd, Nat.reduceLT, ↓us_sl4Lead, r_sl4Lead, h.facts]
  refine m_upto cs.length (fun k vs w' => ∃ x, vs = [x, S (underL l (cs.take k)), .int .i64 k] ∧ Own fS 1 9 w.heap.size w' x (rowsU l cs k) ∧ Ext w w') ⟨_, rfl, Own.nil fS_len, Ext.refl _⟩ ?_
  rintro k vs w2 hk ⟨x, rfl, ho, hx⟩
  have hq := h.ext hx
  by_cases hlt : k < cs.length
  · have hltI : (k : Int) < cs.length := by omega
    have hltJ : ¬ (cs.length : Int) ≤ k := by omega
    have hc := hcs _ (getD_mem [] hlt)
    have hcl := hc.len
    have hn := hc.1
    simp only [↓vsd, vsn, gW, qd, qv, ev, pick, argE, zipE, ne_eq, eq_self, forall_const, implies_true, if_true, if_false, reduceIte, reduceCtorEq, Nat.reduceEqDiff, Nat.reduceAdd, Nat.reduceLT, ↓us_sl4Lead, r_sl4Lead, hq.facts, hq.at1 [] hlt, hltI, hltJ]
    refine ⟨by omega, m_bsl (one_el rfl) ?_⟩
    rintro b4 w4 hb4 hblk4 hx4 hs4
    simp only [↓vsd, vsn, gW, qd, qv, ev, pick, argE, zipE, ne_eq, eq_self, forall_const, implies_true, if_true, if_false, reduceIte, reduceCtorEq, Nat.reduceEqDiff, Nat.reduceAdd, Nat.reduceLT, ↓us_sl4Lead, r_sl4Lead]
    have hrl : (rowsU l cs k).length = k := by simp [rowsU]
    refine m_app (ho.ext hx4) (Sq.one fS_len hblk4 rfl) fS_one (by decide) (by rw [hrl]; simp; omega) (by decide) ((hx.trans hx4).size) ?_
    rintro x5 w5 ho5 hg5
    have hx5 := (ho.ext hx4).grown (hx.trans hx4) (Nat.le_refl _) hg5
    simp only [↓vsd, vsn, gW, qd, qv, ev, pick, argE, zipE, ne_eq, eq_self, forall_const, implies_true, if_true, if_false, reduceIte, reduceCtorEq, Nat.reduceEqDiff, Nat.reduceAdd, Nat.reduceLT, ↓us_sl4Lead, r_sl4Lead]
    refine m_call (sl2Apply_ok _ _ (underL_row _ hl) (by omega) _) ?_
    rintro _ w6 hx6 rfl
    simp only [↓vsd, vsn, gW, qd, qv, ev, pick, argE, zipE, ne_eq, eq_self, forall_const, implies_true, if_true, if_false, reduceIte, reduceCtorEq, Nat.reduceEqDiff, Nat.reduceAdd, Nat.reduceLT, ↓us_sl4Lead, r_sl4Lead]
    have hs := underL_snoc l cs k hlt
    exact ⟨inR_i64 (by omega), UpTo.next hlt ⟨x5, by rw [hs]; rfl, (ho5.to (by simp [rowsU, List.range_succ])).ext hx6, hx5.trans hx6⟩⟩
  · obtain rfl : k = cs.length := by omega
    have hltI : ¬ (cs.length : Int) < cs.length := by omega
    simp only [↓vsd, vsn, gW, qd, qv, ev, pick, argE, zipE, ne_eq, eq_self, forall_const, implies_true, if_true, if_false, reduceIte, reduceCtorEq, Nat.reduceEqDiff, Nat.reduceAdd, Nat.reduceLT, ↓us_sl4Lead, r_sl4Lead, hltI]
    exact ⟨hx, x, by rw [List.take_length], ho⟩
theorem ileadHead_ok (nm : List UInt8) (st : Int) (v : Value) (cs : List (List UInt8)) (hm : IsMethod nm st cs) (w : World) (h : Sq fS 1 w v cs) : Fn 146 [mV nm st v] w (fun r _ => r = S (underL (roundsL st.toNat) cs)) := by
  (refine callsV_of mix Try.func146 c_ileadHead ?_; simp only [↓vsd, vsn, gW, qd, qv, ev, pick, argE, zipE, ne_eq, eq_self, forall_const, implies_true, if_true, if_false, reduceIte, reduceCtorEq, Nat.reduceEqDiff, Nat.reduceAdd, Nat.reduceLT, ↓us_ileadHead, r_ileadHead])
  refine m_al ?_
  rintro b w1 hb hblk hx1 hs1
  have h1 : Blk w1 b (fM nm st v) 26 := hblk
  have hq1 := h.ext hx1
  simp only [↓vsd, vsn, gW, qd, qv, ev, pick, argE, zipE, ne_eq, eq_self, forall_const, implies_true, if_true, if_false, reduceIte, reduceCtorEq, Nat.reduceEqDiff, Nat.reduceAdd, Nat.reduceLT, ↓us_ileadHead, r_ileadHead, h1.facts, fMg]
  obtain ⟨s, rfl⟩ : ∃ s : Nat, st = s := ⟨st.toNat, by have := hm.2.1; omega⟩
  have hs := hm.2.1
  have hd1 : Ext w1 w1.drew := dr (Ext.refl _)
  refine m_call (irounds_ok s (by omega) _) ?_
  rintro _ w2 hx2 rfl
  have hx12 := ud hx2
  have h2 := h1.ext hx12
  simp only [↓vsd, vsn, gW, qd, qv, ev, pick, argE, zipE, ne_eq, eq_self, forall_const, implies_true, if_true, if_false, reduceIte, reduceCtorEq, Nat.reduceEqDiff, Nat.reduceAdd, Nat.reduceLT, ↓us_ileadHead, r_ileadHead, h2.facts, fMg]
  have hrow := roundsL_row s (by omega)
  refine m_call (irowsUnder_ok _ v cs s hrow hm.2.2.2 hm.2.2.1.2 _ (hq1.ext hx12)) ?_
  rintro x w3 hx3 ho3
  have hlen := rowsU_len (roundsL s) cs (cs.length + 1)
  have hI : ((cs.length + 1 : Nat) : Int) - 1 = (cs.length : Nat) := by omega
  have hge := rowsU_get (roundsL s) cs (cs.length + 1) cs.length (by omega)
  rw [List.take_length] at hge
  have hlt : cs.length < (rowsU (roundsL s) cs (cs.length + 1)).length := by omega
  simp only [↓vsd, vsn, gW, qd, qv, ev, pick, argE, zipE, ne_eq, eq_self, forall_const, implies_true, if_true, if_false, reduceIte, reduceCtorEq, Nat.reduceEqDiff, Nat.reduceAdd, Nat.reduceLT, ↓us_ileadHead, r_ileadHead, ho3.sq.facts, hlen, hI, ho3.sq.at1 [] hlt, hge]
  exact ⟨inR_i64 (by have := hm.2.2.1; omega), by omega, hx1.trans (hx12.trans hx3)⟩
theorem sl4Head_ok (nm : List UInt8) (st : Int) (v : Value) (cs : List (List UInt8)) (hm : IsMethod nm st cs) (w : World) (h : Sq fS 1 w v cs) : Fn 307 [mV nm st v] w (fun r _ => r = S (underL (roundsL st.toNat) cs)) := by
  (refine callsV_of mix Try.func307 c_sl4Head ?_; simp only [↓vsd, vsn, gW, qd, qv, ev, pick, argE, zipE, ne_eq, eq_self, forall_const, implies_true, if_true, if_false, reduceIte, reduceCtorEq, Nat.reduceEqDiff, Nat.reduceAdd, Nat.reduceLT, ↓us_sl4Head, r_sl4Head])
  refine m_al ?_
  rintro b w1 hb hblk hx1 hs1
  have h1 : Blk w1 b (fM nm st v) 26 := hblk
  have hq1 := h.ext hx1
  simp only [↓vsd, vsn, gW, qd, qv, ev, pick, argE, zipE, ne_eq, eq_self, forall_const, implies_true, if_true, if_false, reduceIte, reduceCtorEq, Nat.reduceEqDiff, Nat.reduceAdd, Nat.reduceLT, ↓us_sl4Head, r_sl4Head, h1.facts, fMg]
  obtain ⟨s, rfl⟩ : ∃ s : Nat, st = s := ⟨st.toNat, by have := hm.2.1; omega⟩
  have hs := hm.2.1
  refine m_call (sl1Rounds_ok s (by omega) _) ?_
  rintro _ w2 hx2 rfl
  have hx12 := ud hx2
  have h2 := h1.ext hx12
  simp only [↓vsd, vsn, gW, qd, qv, ev, pick, argE, zipE, ne_eq, eq_self, forall_const, implies_true, if_true, if_false, reduceIte, reduceCtorEq, Nat.reduceEqDiff, Nat.reduceAdd, Nat.reduceLT, ↓us_sl4Head, r_sl4Head, h2.facts, fMg]
  have hrow := roundsL_row s (by omega)
  refine m_call (sl4Lead_ok _ v cs s hrow hm.2.2.2 hm.2.2.1.2 _ (hq1.ext hx12)) ?_
  rintro _ w3 hx3 ⟨x, rfl, ho3⟩
  simp only [↓vsd, vsn, gW, qd, qv, ev, pick, argE, zipE, ne_eq, eq_self, forall_const, implies_true, if_true, if_false, reduceIte, reduceCtorEq, Nat.reduceEqDiff, Nat.reduceAdd, Nat.reduceLT, ↓us_sl4Head, r_sl4Head]
  exact hx1.trans (hx12.trans hx3)
theorem lszMethod_ok (nm : List UInt8) (st : Int) (v : Value) (cs : List (List UInt8)) (n : Int) (hn : 0 ≤ n ∧ n ≤ 1048576) (hnm : nm.length ≤ 9223372036854775807) (hl : cs.length ≤ 9223372036854775807) (hs : ∀ x ∈ cs, x.length ≤ 9223372036854775807) (w : World) (h : Sq fS 1 w v cs) :
    Fn 239 [mV nm st v, .int .i64 n] w (fun r _ => ∃ m : Int, r = .int .i64 m ∧ m ≤ 1048576 ∧ (0 ≤ m → nm.length ≤ 1048576 ∧ cs.length ≤ 1048576 ∧ ∀ x ∈ cs, x.length ≤ 1048576)) := by
  (refine callsV_of mix Try.func239 c_lszMethod ?_; simp only [↓vsd, vsn, gW, qd, qv, ev, pick, argE, zipE, ne_eq, eq_self, forall_const, implies_true, if_true, if_false, reduceIte, reduceCtorEq, Nat.reduceEqDiff, Nat.reduceAdd, Nat.reduceLT, ↓us_lszMethod, r_lszMethod])
  refine m_al ?_
  rintro b w1 hb hblk hx1 hs1
  have h1 : Blk w1 b (fM nm st v) 164 := hblk
  have hq1 := h.ext hx1
  simp only [↓vsd, vsn, gW, qd, qv, ev, pick, argE, zipE, ne_eq, eq_self, forall_const, implies_true, if_true, if_false, reduceIte, reduceCtorEq, Nat.reduceEqDiff, Nat.reduceAdd, Nat.reduceLT, ↓us_lszMethod, r_lszMethod, h1.facts, fMg]
  refine ⟨inR_i64 (by omega), fun hneg => ⟨hx1, -1, rfl, by omega, fun h => by omega⟩, fun hpos => ?_⟩
  refine m_call (lszStringS_ok v cs _ ⟨hpos, by omega⟩ hl hs _ hq1) ?_
  rintro _ w2 hx2 ⟨m, rfl, hm1, hm2⟩
  simp only [↓vsd, vsn, gW, qd, qv, ev, pick, argE, zipE, ne_eq, eq_self, forall_const, implies_true, if_true, if_false, reduceIte, reduceCtorEq, Nat.reduceEqDiff, Nat.reduceAdd, Nat.reduceLT, ↓us_lszMethod, r_lszMethod]
  refine ⟨fun hneg => ⟨hx1.trans hx2, -1, rfl, by omega, fun h => by omega⟩, fun hp => ⟨hx1.trans hx2, m, rfl, hm1, fun _ => ⟨by omega, hm2 hp⟩⟩⟩
theorem ltoMethod_ok (nm : List UInt8) (st : Int) (v : Value) (cs : List (List UInt8)) (hl : cs.length ≤ 1048576) (w : World) (h : Sq fS 1 w v cs) : Fn 244 [mV nm st v] w (fun r w' => ∃ x, r = mV nm st x ∧ Own fS 1 9 w.heap.size w' x cs) := by
  (refine callsV_of mix Try.func244 c_ltoMethod ?_; simp only [↓vsd, vsn, gW, qd, qv, ev, pick, argE, zipE, ne_eq, eq_self, forall_const, implies_true, if_true, if_false, reduceIte, reduceCtorEq, Nat.reduceEqDiff, Nat.reduceAdd, Nat.reduceLT, ↓us_ltoMethod, r_ltoMethod])
  refine m_al ?_
  rintro b w1 hb hblk hx1 hs1
  have h1 : Blk w1 b (fM nm st v) 164 := hblk
  have hq1 := h.ext hx1
  simp only [↓vsd, vsn, gW, qd, qv, ev, pick, argE, zipE, ne_eq, eq_self, forall_const, implies_true, if_true, if_false, reduceIte, reduceCtorEq, Nat.reduceEqDiff, Nat.reduceAdd, Nat.reduceLT, ↓us_ltoMethod, r_ltoMethod, h1.facts, fMg]
  refine m_al ?_
  rintro b2 w2 hb2 hblk2 hx2 hs2
  have h12 := h1.ext hx2
  simp only [↓vsd, vsn, gW, qd, qv, ev, pick, argE, zipE, ne_eq, eq_self, forall_const, implies_true, if_true, if_false, reduceIte, reduceCtorEq, Nat.reduceEqDiff, Nat.reduceAdd, Nat.reduceLT, ↓us_ltoMethod, r_ltoMethod, h12.facts, fMg]
  refine m_al ?_
  rintro b3 w3 hb3 hblk3 hx3 hs3
  have h13 := h12.ext hx3
  simp only [↓vsd, vsn, gW, qd, qv, ev, pick, argE, zipE, ne_eq, eq_self, forall_const, implies_true, if_true, if_false, reduceIte, reduceCtorEq, Nat.reduceEqDiff, Nat.reduceAdd, Nat.reduceLT, ↓us_ltoMethod, r_ltoMethod, h13.facts, fMg]
  have hxA := (hx1.trans hx2).trans hx3
  refine m_st hblk3 rfl (by simp) (fS_one _) ?_
  rintro w4 hblk4 hu4
  have hb4 : Blk w4 b3 (fM nm 0 (.slice none 0 0)) 26 := hblk4
  have h14 := hu4.blk h13 (by omega)
  have hx4 : Ext w w4 := hu4.below hxA (by omega)
  simp only [↓vsd, vsn, gW, qd, qv, ev, pick, argE, zipE, ne_eq, eq_self, forall_const, implies_true, if_true, if_false, reduceIte, reduceCtorEq, Nat.reduceEqDiff, Nat.reduceAdd, Nat.reduceLT, ↓us_ltoMethod, r_ltoMethod, h14.facts, fMg]
  refine m_st hb4 rfl (by decide : 1 + 1 ≤ 3) (fI_one _) ?_
  rintro w5 hblk5 hu5
  have hb5 : Blk w5 b3 (fM nm st (.slice none 0 0)) 26 := hblk5
  have h15 := hu5.blk h14 (by omega)
  have hx5 : Ext w w5 := hu5.below hx4 (by omega)
  simp only [↓vsd, vsn, gW, qd, qv, ev, pick, argE, zipE, ne_eq, eq_self, forall_const, implies_true, if_true, if_false, reduceIte, reduceCtorEq, Nat.reduceEqDiff, Nat.reduceAdd, Nat.reduceLT, ↓us_ltoMethod, r_ltoMethod, h15.facts, fMg]
  refine m_call (ltoStringS_ok v cs hl _ (h.ext hx5)) ?_
  rintro x w6 hx6 ho6
  simp only [↓vsd, vsn, gW, qd, qv, ev, pick, argE, zipE, ne_eq, eq_self, forall_const, implies_true, if_true, if_false, reduceIte, reduceCtorEq, Nat.reduceEqDiff, Nat.reduceAdd, Nat.reduceLT, ↓us_ltoMethod, r_ltoMethod]
  have hxc : x.cells = #[x] := of_eq_true ho6.sq.oneC
  have hx36 := ((Ext.refl w3).trans (Ext.refl w3))
  refine m_st (hb5.ext hx6) (by rw [hxc]; rfl) (by decide : 2 + 1 ≤ 3) (by rw [hxc]; intro u hu; simp only [List.mem_singleton] at hu; subst hu; exact ho6.sq.one') ?_
  rintro w7 hblk7 hu7
  rw [hxc] at hblk7
  have hb7 : Blk w7 b3 (fM nm st x) 26 := hblk7
  have hx7 : Ext w w7 := hu7.below (hx5.trans hx6) (by omega)
  have ho7 : Own fS 1 9 w5.heap.size w7 x cs := ho6.keep hu7.grown (fun c hc => by obtain rfl := Option.some.inj hc; exact (hb5.lt))
  simp only [↓vsd, vsn, gW, qd, qv, ev, pick, argE, zipE, ne_eq, eq_self, forall_const, implies_true, if_true, if_false, reduceIte, reduceCtorEq, Nat.reduceEqDiff, Nat.reduceAdd, Nat.reduceLT, ↓us_ltoMethod, r_ltoMethod, hb7.facts, fMg]
  have h27 := hu7.blk ((hu5.blk (hu4.blk (hblk2.ext hx3) (by omega)) (by omega)).ext hx6) (by omega)
  refine m_st h27 rfl (Nat.le_refl 3) (fM_one nm st x ho6.sq.one') ?_
  rintro w8 hblk8 hu8
  have hb8 : Blk w8 b2 (fM nm st x) 26 := hblk8
  have hx8 : Ext w w8 := hu8.below hx7 (by omega)
  have ho8 := ho7.keep hu8.grown (fun c hc => by obtain rfl := Option.some.inj hc; have := hb5.lt; have := h27.lt; have := (hu4.blk (hblk2.ext hx3) (by omega)).lt; have := (hu5.blk (hu4.blk (hblk2.ext hx3) (by omega)) (by omega)).lt; omega)
  simp only [↓vsd, vsn, gW, qd, qv, ev, pick, argE, zipE, ne_eq, eq_self, forall_const, implies_true, if_true, if_false, reduceIte, reduceCtorEq, Nat.reduceEqDiff, Nat.reduceAdd, Nat.reduceLT, ↓us_ltoMethod, r_ltoMethod, hb8.facts, fMg]
  exact ⟨hx8, x, rfl, ho8.mono hx5.size⟩
theorem leqMethod_ok (nm nm' : List UInt8) (st st' : Int) (v v' : Value) (cs cs' : List (List UInt8)) (hl : cs.length ≤ 1000000000) (w : World) (h : Sq fS 1 w v cs) (h' : Sq fS 1 w v' cs') : Fn 250 [mV nm st v, mV nm' st' v'] w (fun r _ => r = .bool (decide (nm = nm' ∧ st = st' ∧ cs = cs'))) := by
  (refine callsV_of mix Try.func250 c_leqMethod ?_; simp only [↓vsd, vsn, gW, qd, qv, ev, pick, argE, zipE, ne_eq, eq_self, forall_const, implies_true, if_true, if_false, reduceIte, reduceCtorEq, Nat.reduceEqDiff, Nat.reduceAdd, Nat.reduceLT, ↓us_leqMethod, r_leqMethod])
  refine m_al ?_
  rintro b w1 hb hblk hx1 hs1
  have h1 : Blk w1 b (fM nm st v) 26 := hblk
  have hq1 := h.ext hx1
  simp only [↓vsd, vsn, gW, qd, qv, ev, pick, argE, zipE, ne_eq, eq_self, forall_const, implies_true, if_true, if_false, reduceIte, reduceCtorEq, Nat.reduceEqDiff, Nat.reduceAdd, Nat.reduceLT, ↓us_leqMethod, r_leqMethod, h1.facts, fMg]
  refine m_al ?_
  rintro b2 w2 hb2 hblk2 hx2 hs2
  have h2 : Blk w2 b2 (fM nm' st' v') 26 := hblk2
  have h12 := h1.ext hx2
  simp only [↓vsd, vsn, gW, qd, qv, ev, pick, argE, zipE, ne_eq, eq_self, forall_const, implies_true, if_true, if_false, reduceIte, reduceCtorEq, Nat.reduceEqDiff, Nat.reduceAdd, Nat.reduceLT, ↓us_leqMethod, r_leqMethod, h12.facts, h2.facts, fMg]
  have hx12 := hx1.trans hx2
  refine ⟨fun hn => ⟨hx12, by simp [hn]⟩, fun hn => ⟨fun hs => ⟨hx12, by simp [hs]⟩, fun hs => ?_⟩⟩
  refine m_call (leqStringS_ok v v' cs cs' _ (h.ext hx12) (h'.ext hx12) hl) ?_
  rintro _ w3 hx3 rfl
  simp only [↓vsd, vsn, gW, qd, qv, ev, pick, argE, zipE, ne_eq, eq_self, forall_const, implies_true, if_true, if_false, reduceIte, reduceCtorEq, Nat.reduceEqDiff, Nat.reduceAdd, Nat.reduceLT, ↓us_leqMethod, r_leqMethod]
  have e : (nm = nm' ∧ st = st' ∧ cs = cs') = (cs = cs') := by simp [hn, hs]
  simp only [e]
  exact ⟨fun hh => ⟨hx12.trans hx3, by simp [hh]⟩, fun hh => ⟨hx12.trans hx3, by simp [hh]⟩⟩
end Go.Proofs.Ytnincmnkdjlndaa
