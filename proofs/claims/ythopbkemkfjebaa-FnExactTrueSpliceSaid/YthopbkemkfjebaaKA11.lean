/-
  Methods: what a good one is, its lead's rows, its lead head.
  Conditions: none.
-/
import Derived.Test.YthopbkemkfjebaaKA10
set_option linter.unusedSimpArgs false
set_option linter.unusedVariables false
set_option linter.defProp false
namespace Go.Proofs.Ythopbkemkfjebaa
open Go Go.RowKit
section
variable (P : Program) (k : KT) (e : Env) (w : World)
abbrev b209_1 : X := (.cond (.t 18) (.seq (.reg [2] (.c (.q 2 [] (.mv (.c (.bool false)))) .nil)) .ret) .skip)
def t209_1 := b209_1
theorem u209_1 : vcK P t209_1 k e w = vcK P b209_1 k e w := rfl
abbrev b209_2 : X := (.seq (.reg [0, 5, 6, 18] (.c (.q 9 [] (.mv (.t 0))) (.c (.q 10 [] (.mv (.t 3))) (.c (.q 11 [] (.idx (.t 9) (.t 10))) (.c (.q 12 [] (.bin .lss (.t 11) (.c (.int .u8 97)))) (.c (.q 13 [] (.mv (.t 12))) (.c (.q 14 [(13, false)] (.mv (.t 0))) (.c (.q 15 [(13, false)] (.mv (.t 3))) (.c (.q 16 [(13, false)] (.idx (.t 14) (.t 15))) (.c (.q 17 [(13, false)] (.bin .gtr (.t 16) (.c (.int .u8 122)))) (.c (.q 18 [] (.pick (.t 13) (.c (.bool true)) (.t 17))) .nil))))))))))) t209_1)
def t209_2 := b209_2
theorem u209_2 : vcK P t209_2 k e w = vcK P b209_2 k e w := rfl
abbrev b209_3 : X := (.reg [0, 5, 6] (.c (.q 19 [] (.bin .add (.t 6) (.c (.int .i64 1)))) (.c (.q 6 [] (.mv (.t 19))) .nil)))
def t209_3 := b209_3
theorem u209_3 : vcK P t209_3 k e w = vcK P b209_3 k e w := rfl
abbrev b209_4 : X := (.seq (.blk 1 (.seq (.reg [0, 3, 5, 6] (.c (.q 8 [] (.mv (.t 6))) (.c (.q 3 [] (.mv (.t 8))) .nil))) t209_2)) t209_3)
def t209_4 := b209_4
theorem u209_4 : vcK P t209_4 k e w = vcK P b209_4 k e w := rfl
abbrev b209_5 : X := (.seq (.cond (.t 7) .skip (.exit 0)) t209_4)
def t209_5 := b209_5
theorem u209_5 : vcK P t209_5 k e w = vcK P b209_5 k e w := rfl
abbrev b209_6 : X := (.seq (.reg [0, 5, 6, 7] (.c (.q 7 [] (.bin .lss (.t 6) (.t 5))) .nil)) t209_5)
def t209_6 := b209_6
theorem u209_6 : vcK P t209_6 k e w = vcK P b209_6 k e w := rfl
abbrev b209_7 : X := (.blk 0 (.loop [6] [0, 5] t209_6))
def t209_7 := b209_7
theorem u209_7 : vcK P t209_7 k e w = vcK P b209_7 k e w := rfl
abbrev b209_8 : X := (.seq (.reg [2] (.c (.q 20 [] (.mv (.t 0))) (.c (.q 21 [] (.len (.t 20))) (.c (.q 22 [] (.bin .geq (.t 21) (.c (.int .i64 1)))) (.c (.q 23 [] (.mv (.t 22))) (.c (.q 24 [(23, true)] (.mv (.t 0))) (.c (.q 25 [(23, true)] (.len (.t 24))) (.c (.q 26 [(23, true)] (.bin .leq (.t 25) (.c (.int .i64 10)))) (.c (.q 27 [] (.pick (.t 23) (.t 26) (.c (.bool false)))) (.c (.q 2 [] (.mv (.t 27))) .nil)))))))))) .ret)
def t209_8 := b209_8
theorem u209_8 : vcK P t209_8 k e w = vcK P b209_8 k e w := rfl
abbrev b209_9 : X := (.seq (.seq (.reg [0, 5, 6] (.c (.q 4 [] (.mv (.t 0))) (.c (.q 5 [] (.len (.t 4))) (.c (.q 6 [] (.mv (.c (.int .i64 0)))) .nil)))) t209_7) t209_8)
def t209_9 := b209_9
theorem u209_9 : vcK P t209_9 k e w = vcK P b209_9 k e w := rfl
abbrev b209_0 : X := (.seq (.reg [0] (.c (.q 2 [] (.mv (.c (.bool false)))) .nil)) t209_9)
def x_iisWord := b209_0
theorem u209_0 : vcK P x_iisWord k e w = vcK P b209_0 k e w := rfl
def r_iisWord : List XO := [(.mv (.t 2))]
theorem c_iisWord : convF Try.prog [54, 55, 58, 69, 70, 71, 72, 73, 84, 89, 94, 95, 113, 114, 115, 130, 134, 143, 146, 161] Try.f209 [([0], []), ([0, 5, 6], []), ([6], [0, 5]), ([0, 5, 6, 7], []), ([0, 3, 5, 6], []), ([0, 5, 6, 18], []), ([2], []), ([0, 5, 6], []), ([2], [])] = some (x_iisWord, r_iisWord) := by kernel_rfl
def us_iisWord :=  (aI (aI (aI @u209_0 @u209_1) (aI @u209_2 (aI @u209_3 @u209_4))) (aI (aI @u209_5 @u209_6) (aI @u209_7 (aI @u209_8 @u209_9))))
abbrev b185_1 : X := (.cond (.t 7) .skip (.exit 0))
def t185_1 := b185_1
theorem u185_1 : vcK P t185_1 k e w = vcK P b185_1 k e w := rfl
abbrev b185_2 : X := (.cond (.t 19) (.seq (.reg [2] (.c (.q 2 [] (.mv (.c (.bool false)))) .nil)) .ret) .skip)
def t185_2 := b185_2
theorem u185_2 : vcK P t185_2 k e w = vcK P b185_2 k e w := rfl
abbrev b185_3 : X := (.reg [0, 3] (.c (.q 8 [] (.mv (.t 3))) (.c (.q 9 [] (.bin .add (.t 8) (.c (.int .i64 1)))) (.c (.q 3 [] (.mv (.t 9))) .nil))))
def t185_3 := b185_3
theorem u185_3 : vcK P t185_3 k e w = vcK P b185_3 k e w := rfl
abbrev b185_4 : X := (.seq (.blk 1 (.seq (.reg [0, 3, 19] (.c (.q 10 [] (.mv (.t 0))) (.c (.q 11 [] (.mv (.t 3))) (.c (.q 12 [] (.idx (.t 10) (.t 11))) (.c (.q 13 [] (.bin .lss (.t 12) (.c (.int .u8 97)))) (.c (.q 14 [] (.mv (.t 13))) (.c (.q 15 [(14, false)] (.mv (.t 0))) (.c (.q 16 [(14, false)] (.mv (.t 3))) (.c (.q 17 [(14, false)] (.idx (.t 15) (.t 16))) (.c (.q 18 [(14, false)] (.bin .gtr (.t 17) (.c (.int .u8 122)))) (.c (.q 19 [] (.pick (.t 14) (.c (.bool true)) (.t 18))) .nil))))))))))) t185_2)) t185_3)
def t185_4 := b185_4
theorem u185_4 : vcK P t185_4 k e w = vcK P b185_4 k e w := rfl
abbrev b185_5 : X := (.seq (.seq (.reg [0, 3, 7] (.c (.q 4 [] (.mv (.t 3))) (.c (.q 5 [] (.mv (.t 0))) (.c (.q 6 [] (.len (.t 5))) (.c (.q 7 [] (.bin .lss (.t 4) (.t 6))) .nil))))) t185_1) t185_4)
def t185_5 := b185_5
theorem u185_5 : vcK P t185_5 k e w = vcK P b185_5 k e w := rfl
abbrev b185_6 : X := (.blk 0 (.loop [3] [0] t185_5))
def t185_6 := b185_6
theorem u185_6 : vcK P t185_6 k e w = vcK P b185_6 k e w := rfl
abbrev b185_7 : X := (.seq (.reg [2] (.c (.q 20 [] (.mv (.t 0))) (.c (.q 21 [] (.len (.t 20))) (.c (.e (some 22) [] (.call false 59 [(.t 21), (.c (.int .i64 1)), (.c (.int .i64 10))])) (.c (.q 2 [] (.mv (.t 22))) .nil))))) .ret)
def t185_7 := b185_7
theorem u185_7 : vcK P t185_7 k e w = vcK P b185_7 k e w := rfl
abbrev b185_8 : X := (.seq (.seq (.reg [0, 3] (.c (.q 3 [] (.mv (.c (.int .i64 0)))) .nil)) t185_6) t185_7)
def t185_8 := b185_8
theorem u185_8 : vcK P t185_8 k e w = vcK P b185_8 k e w := rfl
abbrev b185_0 : X := (.seq (.reg [0] (.c (.q 2 [] (.mv (.c (.bool false)))) .nil)) t185_8)
def x_sl4Name := b185_0
theorem u185_0 : vcK P x_sl4Name k e w = vcK P b185_0 k e w := rfl
def r_sl4Name : List XO := [(.mv (.t 2))]
theorem c_sl4Name : convF Try.prog [54, 55, 58, 69, 70, 71, 72, 73, 84, 89, 94, 95, 113, 114, 115, 130, 134, 143, 146, 161] Try.f185 [([0], []), ([0, 3], []), ([3], [0]), ([0, 3, 7], []), ([0, 3, 19], []), ([2], []), ([0, 3], []), ([2], [])] = some (x_sl4Name, r_sl4Name) := by kernel_rfl
def us_sl4Name :=  (aI (aI (aI @u185_0 @u185_1) (aI @u185_2 @u185_3)) (aI (aI @u185_4 @u185_5) (aI @u185_6 (aI @u185_7 @u185_8))))
abbrev b78_1 : X := (.cond (.t 14) (.seq (.reg [4] (.c (.q 4 [] (.mv (.c (.bool false)))) .nil)) .ret) .skip)
def t78_1 := b78_1
theorem u78_1 : vcK P t78_1 k e w = vcK P b78_1 k e w := rfl
abbrev b78_2 : X := (.cond (.t 24) (.seq (.reg [4] (.c (.q 4 [] (.mv (.c (.bool false)))) .nil)) .ret) .skip)
def t78_2 := b78_2
theorem u78_2 : vcK P t78_2 k e w = vcK P b78_2 k e w := rfl
abbrev b78_3 : X := (.seq (.reg [0, 15, 16, 17, 24] (.c (.q 21 [] (.mv (.t 0))) (.c (.q 22 [] (.mv (.t 6))) (.c (.e (some 23) [] (.call false 31 [(.t 21), (.t 22)])) (.c (.q 24 [] (.not (.t 23))) .nil))))) t78_2)
def t78_3 := b78_3
theorem u78_3 : vcK P t78_3 k e w = vcK P b78_3 k e w := rfl
abbrev b78_4 : X := (.reg [0, 15, 16, 17] (.c (.q 25 [] (.bin .add (.t 17) (.c (.int .i64 1)))) (.c (.q 17 [] (.mv (.t 25))) .nil)))
def t78_4 := b78_4
theorem u78_4 : vcK P t78_4 k e w = vcK P b78_4 k e w := rfl
abbrev b78_5 : X := (.seq (.blk 1 (.seq (.reg [0, 6, 15, 16, 17] (.c (.q 19 [] (.ia 1 (.t 15) (.t 17))) (.c (.q 20 [] (.ld (.t 19))) (.c (.q 6 [] (.mv (.t 20))) .nil)))) t78_3)) t78_4)
def t78_5 := b78_5
theorem u78_5 : vcK P t78_5 k e w = vcK P b78_5 k e w := rfl
abbrev b78_6 : X := (.seq (.cond (.t 18) .skip (.exit 0)) t78_5)
def t78_6 := b78_6
theorem u78_6 : vcK P t78_6 k e w = vcK P b78_6 k e w := rfl
abbrev b78_7 : X := (.seq (.reg [0, 15, 16, 17, 18] (.c (.q 18 [] (.bin .lss (.t 17) (.t 16))) .nil)) t78_6)
def t78_7 := b78_7
theorem u78_7 : vcK P t78_7 k e w = vcK P b78_7 k e w := rfl
abbrev b78_8 : X := (.blk 0 (.loop [17] [0, 15, 16] t78_7))
def t78_8 := b78_8
theorem u78_8 : vcK P t78_8 k e w = vcK P b78_8 k e w := rfl
abbrev b78_9 : X := (.seq (.reg [4] (.c (.q 4 [] (.mv (.c (.bool true)))) .nil)) .ret)
def t78_9 := b78_9
theorem u78_9 : vcK P t78_9 k e w = vcK P b78_9 k e w := rfl
abbrev b78_10 : X := (.seq (.seq (.reg [0, 15, 16, 17] (.c (.q 15 [] (.mv (.t 1))) (.c (.q 16 [] (.lens (.t 15))) (.c (.q 17 [] (.mv (.c (.int .i64 0)))) .nil)))) t78_8) t78_9)
def t78_10 := b78_10
theorem u78_10 : vcK P t78_10 k e w = vcK P b78_10 k e w := rfl
abbrev b78_11 : X := (.seq (.seq (.reg [0, 1, 14] (.c (.q 7 [] (.mv (.t 1))) (.c (.q 8 [] (.lens (.t 7))) (.c (.q 9 [] (.bin .lss (.t 8) (.c (.int .i64 1)))) (.c (.q 10 [] (.mv (.t 9))) (.c (.q 11 [(10, false)] (.mv (.t 1))) (.c (.q 12 [(10, false)] (.lens (.t 11))) (.c (.q 13 [(10, false)] (.bin .gtr (.t 12) (.c (.int .i64 40)))) (.c (.q 14 [] (.pick (.t 10) (.c (.bool true)) (.t 13))) .nil))))))))) t78_1) t78_10)
def t78_11 := b78_11
theorem u78_11 : vcK P t78_11 k e w = vcK P b78_11 k e w := rfl
abbrev b78_0 : X := (.seq (.reg [0, 1] (.c (.q 4 [] (.mv (.c (.bool false)))) .nil)) t78_11)
def x_iareChanges := b78_0
theorem u78_0 : vcK P x_iareChanges k e w = vcK P b78_0 k e w := rfl
def r_iareChanges : List XO := [(.mv (.t 4))]
theorem c_iareChanges : convF Try.prog [54, 55, 58, 69, 70, 71, 72, 73, 84, 89, 94, 95, 113, 114, 115, 130, 134, 143, 146, 161] Try.f78 [([0, 1], []), ([0, 1, 14], []), ([4], []), ([0, 15, 16, 17], []), ([17], [0, 15, 16]), ([0, 15, 16, 17, 18], []), ([0, 6, 15, 16, 17], []), ([0, 15, 16, 17, 24], []), ([4], []), ([0, 15, 16, 17], []), ([4], [])] = some (x_iareChanges, r_iareChanges) := by kernel_rfl
def us_iareChanges :=  (aI (aI (aI @u78_0 (aI @u78_1 @u78_2)) (aI @u78_3 (aI @u78_4 @u78_5))) (aI (aI @u78_6 (aI @u78_7 @u78_8)) (aI @u78_9 (aI @u78_10 @u78_11))))
abbrev b186_1 : X := (.seq (.reg [2] (.c (.q 3 [] (.fa 0 (.t 1))) (.c (.q 4 [] (.ld (.t 3))) (.c (.e (some 5) [] (.call false 209 [(.t 4)])) (.c (.q 6 [] (.mv (.t 5))) (.c (.q 7 [(6, true)] (.fa 1 (.t 1))) (.c (.q 8 [(6, true)] (.ld (.t 7))) (.c (.q 9 [(6, true)] (.fa 2 (.t 1))) (.c (.q 10 [(6, true)] (.ld (.t 9))) (.c (.e (some 11) [(6, true)] (.call false 78 [(.t 8), (.t 10)])) (.c (.q 12 [] (.pick (.t 6) (.t 11) (.c (.bool false)))) (.c (.q 2 [] (.mv (.t 12))) .nil)))))))))))) .ret)
def t186_1 := b186_1
theorem u186_1 : vcK P t186_1 k e w = vcK P b186_1 k e w := rfl
abbrev b186_0 : X := (.seq (.reg [1] (.c (.e (some 1) [] (.box 68 (.t 0))) (.c (.q 2 [] (.mv (.c (.bool false)))) .nil))) t186_1)
def x_iGoodMethod := b186_0
theorem u186_0 : vcK P x_iGoodMethod k e w = vcK P b186_0 k e w := rfl
def r_iGoodMethod : List XO := [(.mv (.t 2))]
theorem c_iGoodMethod : convF Try.prog [54, 55, 58, 69, 70, 71, 72, 73, 84, 89, 94, 95, 113, 114, 115, 130, 134, 143, 146, 161] Try.f186 [([1], []), ([2], [])] = some (x_iGoodMethod, r_iGoodMethod) := by kernel_rfl
def us_iGoodMethod :=  (aI @u186_0 @u186_1)
abbrev b152_1 : X := (.cond (.t 16) (.seq (.reg [2] (.c (.q 2 [] (.mv (.c (.bool false)))) .nil)) .ret) .skip)
def t152_1 := b152_1
theorem u152_1 : vcK P t152_1 k e w = vcK P b152_1 k e w := rfl
abbrev b152_2 : X := (.seq (.reg [1, 6, 7, 8, 16] (.c (.q 12 [] (.fa 1 (.t 1))) (.c (.q 13 [] (.ld (.t 12))) (.c (.q 14 [] (.mv (.t 4))) (.c (.e (some 15) [] (.call false 140 [(.t 13), (.t 14)])) (.c (.q 16 [] (.not (.t 15))) .nil)))))) t152_1)
def t152_2 := b152_2
theorem u152_2 : vcK P t152_2 k e w = vcK P b152_2 k e w := rfl
abbrev b152_3 : X := (.reg [1, 6, 7, 8] (.c (.q 17 [] (.bin .add (.t 8) (.c (.int .i64 1)))) (.c (.q 8 [] (.mv (.t 17))) .nil)))
def t152_3 := b152_3
theorem u152_3 : vcK P t152_3 k e w = vcK P b152_3 k e w := rfl
abbrev b152_4 : X := (.seq (.blk 1 (.seq (.reg [1, 4, 6, 7, 8] (.c (.q 10 [] (.ia 1 (.t 6) (.t 8))) (.c (.q 11 [] (.ld (.t 10))) (.c (.q 4 [] (.mv (.t 11))) .nil)))) t152_2)) t152_3)
def t152_4 := b152_4
theorem u152_4 : vcK P t152_4 k e w = vcK P b152_4 k e w := rfl
abbrev b152_5 : X := (.seq (.cond (.t 9) .skip (.exit 0)) t152_4)
def t152_5 := b152_5
theorem u152_5 : vcK P t152_5 k e w = vcK P b152_5 k e w := rfl
abbrev b152_6 : X := (.seq (.reg [1, 6, 7, 8, 9] (.c (.q 9 [] (.bin .lss (.t 8) (.t 7))) .nil)) t152_5)
def t152_6 := b152_6
theorem u152_6 : vcK P t152_6 k e w = vcK P b152_6 k e w := rfl
abbrev b152_7 : X := (.blk 0 (.loop [8] [1, 6, 7] t152_6))
def t152_7 := b152_7
theorem u152_7 : vcK P t152_7 k e w = vcK P b152_7 k e w := rfl
abbrev b152_8 : X := (.seq (.reg [2] (.c (.q 18 [] (.fa 0 (.t 1))) (.c (.q 19 [] (.ld (.t 18))) (.c (.e (some 20) [] (.call false 185 [(.t 19)])) (.c (.q 21 [] (.mv (.t 20))) (.c (.q 22 [(21, true)] (.fa 1 (.t 1))) (.c (.q 23 [(21, true)] (.ld (.t 22))) (.c (.e (some 24) [(21, true)] (.call false 59 [(.t 23), (.c (.int .i64 3)), (.c (.int .i64 8))])) (.c (.q 25 [] (.pick (.t 21) (.t 24) (.c (.bool false)))) (.c (.q 26 [] (.mv (.t 25))) (.c (.q 27 [(26, true)] (.fa 2 (.t 1))) (.c (.q 28 [(26, true)] (.ld (.t 27))) (.c (.q 29 [(26, true)] (.lens (.t 28))) (.c (.e (some 30) [(26, true)] (.call false 59 [(.t 29), (.c (.int .i64 1)), (.c (.int .i64 40))])) (.c (.q 31 [] (.pick (.t 26) (.t 30) (.c (.bool false)))) (.c (.q 2 [] (.mv (.t 31))) .nil)))))))))))))))) .ret)
def t152_8 := b152_8
theorem u152_8 : vcK P t152_8 k e w = vcK P b152_8 k e w := rfl
abbrev b152_9 : X := (.seq (.seq (.reg [1, 6, 7, 8] (.c (.q 5 [] (.fa 2 (.t 1))) (.c (.q 6 [] (.ld (.t 5))) (.c (.q 7 [] (.lens (.t 6))) (.c (.q 8 [] (.mv (.c (.int .i64 0)))) .nil))))) t152_7) t152_8)
def t152_9 := b152_9
theorem u152_9 : vcK P t152_9 k e w = vcK P b152_9 k e w := rfl
abbrev b152_0 : X := (.seq (.reg [1] (.c (.e (some 1) [] (.box 68 (.t 0))) (.c (.q 2 [] (.mv (.c (.bool false)))) .nil))) t152_9)
def x_sl4Good := b152_0
theorem u152_0 : vcK P x_sl4Good k e w = vcK P b152_0 k e w := rfl
def r_sl4Good : List XO := [(.mv (.t 2))]
theorem c_sl4Good : convF Try.prog [54, 55, 58, 69, 70, 71, 72, 73, 84, 89, 94, 95, 113, 114, 115, 130, 134, 143, 146, 161] Try.f152 [([1], []), ([1, 6, 7, 8], []), ([8], [1, 6, 7]), ([1, 6, 7, 8, 9], []), ([1, 4, 6, 7, 8], []), ([1, 6, 7, 8, 16], []), ([2], []), ([1, 6, 7, 8], []), ([2], [])] = some (x_sl4Good, r_sl4Good) := by kernel_rfl
def us_sl4Good :=  (aI (aI (aI @u152_0 @u152_1) (aI @u152_2 (aI @u152_3 @u152_4))) (aI (aI @u152_5 @u152_6) (aI @u152_7 (aI @u152_8 @u152_9))))
abbrev b190_1 : X := (.reg [0, 5, 10, 11, 12] (.c (.q 19 [] (.mv (.t 5))) (.c (.q 20 [] (.mv (.t 0))) (.c (.e (some 21) [] (.bsl 9 1 [(.t 20)])) (.c (.e (some 22) [] (.app 24 9 1 16 [(S [])] 24 (.t 19) (.t 21))) (.c (.q 5 [] (.mv (.t 22))) .nil))))))
def t190_1 := b190_1
theorem u190_1 : vcK P t190_1 k e w = vcK P b190_1 k e w := rfl
abbrev b190_2 : X := (.seq (.reg [0, 5, 10, 11, 12] (.c (.q 16 [] (.mv (.t 0))) (.c (.q 17 [] (.mv (.t 7))) (.c (.e (some 18) [] (.call false 212 [(.t 16), (.t 17)])) (.c (.q 0 [] (.mv (.t 18))) .nil))))) t190_1)
def t190_2 := b190_2
theorem u190_2 : vcK P t190_2 k e w = vcK P b190_2 k e w := rfl
abbrev b190_3 : X := (.reg [0, 5, 10, 11, 12] (.c (.q 23 [] (.bin .add (.t 12) (.c (.int .i64 1)))) (.c (.q 12 [] (.mv (.t 23))) .nil)))
def t190_3 := b190_3
theorem u190_3 : vcK P t190_3 k e w = vcK P b190_3 k e w := rfl
abbrev b190_4 : X := (.seq (.blk 1 (.seq (.reg [0, 5, 7, 10, 11, 12] (.c (.q 14 [] (.ia 1 (.t 10) (.t 12))) (.c (.q 15 [] (.ld (.t 14))) (.c (.q 7 [] (.mv (.t 15))) .nil)))) t190_2)) t190_3)
def t190_4 := b190_4
theorem u190_4 : vcK P t190_4 k e w = vcK P b190_4 k e w := rfl
abbrev b190_5 : X := (.seq (.cond (.t 13) .skip (.exit 0)) t190_4)
def t190_5 := b190_5
theorem u190_5 : vcK P t190_5 k e w = vcK P b190_5 k e w := rfl
abbrev b190_6 : X := (.seq (.reg [0, 5, 10, 11, 12, 13] (.c (.q 13 [] (.bin .lss (.t 12) (.t 11))) .nil)) t190_5)
def t190_6 := b190_6
theorem u190_6 : vcK P t190_6 k e w = vcK P b190_6 k e w := rfl
abbrev b190_7 : X := (.blk 0 (.loop [0, 5, 12] [10, 11] t190_6))
def t190_7 := b190_7
theorem u190_7 : vcK P t190_7 k e w = vcK P b190_7 k e w := rfl
abbrev b190_8 : X := (.seq (.reg [4] (.c (.q 24 [] (.mv (.t 5))) (.c (.q 4 [] (.mv (.t 24))) .nil))) .ret)
def t190_8 := b190_8
theorem u190_8 : vcK P t190_8 k e w = vcK P b190_8 k e w := rfl
abbrev b190_9 : X := (.seq (.seq (.reg [0, 5, 10, 11, 12] (.c (.q 10 [] (.mv (.t 1))) (.c (.q 11 [] (.lens (.t 10))) (.c (.q 12 [] (.mv (.c (.int .i64 0)))) .nil)))) t190_7) t190_8)
def t190_9 := b190_9
theorem u190_9 : vcK P t190_9 k e w = vcK P b190_9 k e w := rfl
abbrev b190_10 : X := (.seq (.reg [0, 1, 5] (.c (.q 8 [] (.mv (.t 0))) (.c (.e (some 9) [] (.bsl 9 1 [(.t 8)])) (.c (.q 5 [] (.mv (.t 9))) .nil)))) t190_9)
def t190_10 := b190_10
theorem u190_10 : vcK P t190_10 k e w = vcK P b190_10 k e w := rfl
abbrev b190_0 : X := (.seq (.reg [0, 1] (.c (.q 4 [] (.mv (.c (.slice none 0 0)))) .nil)) t190_10)
def x_irowsUnder := b190_0
theorem u190_0 : vcK P x_irowsUnder k e w = vcK P b190_0 k e w := rfl
def r_irowsUnder : List XO := [(.mv (.t 4))]
theorem c_irowsUnder : convF Try.prog [54, 55, 58, 69, 70, 71, 72, 73, 84, 89, 94, 95, 113, 114, 115, 130, 134, 143, 146, 161] Try.f190 [([0, 1], []), ([0, 1, 5], []), ([0, 5, 10, 11, 12], []), ([0, 5, 12], [10, 11]), ([0, 5, 10, 11, 12, 13], []), ([0, 5, 7, 10, 11, 12], []), ([0, 5, 10, 11, 12], []), ([0, 5, 10, 11, 12], []), ([0, 5, 10, 11, 12], []), ([4], [])] = some (x_irowsUnder, r_irowsUnder) := by kernel_rfl
def us_irowsUnder :=  (aI (aI (aI @u190_0 @u190_1) (aI @u190_2 (aI @u190_3 @u190_4))) (aI (aI @u190_5 (aI @u190_6 @u190_7)) (aI @u190_8 (aI @u190_9 @u190_10))))
abbrev b188_1 : X := (.seq (.reg [2] (.c (.q 10 [] (.mv (.t 3))) (.c (.q 11 [] (.mv (.t 3))) (.c (.q 12 [] (.lens (.t 11))) (.c (.q 13 [] (.bin .sub (.t 12) (.c (.int .i64 1)))) (.c (.q 14 [] (.ia 1 (.t 10) (.t 13))) (.c (.q 15 [] (.ld (.t 14))) (.c (.q 2 [] (.mv (.t 15))) .nil)))))))) .ret)
def t188_1 := b188_1
theorem u188_1 : vcK P t188_1 k e w = vcK P b188_1 k e w := rfl
abbrev b188_2 : X := (.seq (.drw [3] (.c (.q 4 [] (.fa 1 (.t 1))) (.c (.q 5 [] (.ld (.t 4))) (.c (.q 7 [] (.fa 2 (.t 1))) (.c (.q 8 [] (.ld (.t 7))) (.c (.e (some 6) [] (.call false 85 [(.t 5)])) (.c (.e (some 9) [] (.call false 190 [(.t 6), (.t 8)])) (.c (.q 3 [] (.mv (.t 9))) .nil)))))))) t188_1)
def t188_2 := b188_2
theorem u188_2 : vcK P t188_2 k e w = vcK P b188_2 k e w := rfl
abbrev b188_0 : X := (.seq (.reg [1] (.c (.e (some 1) [] (.box 68 (.t 0))) (.c (.q 2 [] (.mv (.s []))) .nil))) t188_2)
def x_ileadHead := b188_0
theorem u188_0 : vcK P x_ileadHead k e w = vcK P b188_0 k e w := rfl
def r_ileadHead : List XO := [(.mv (.t 2))]
theorem c_ileadHead : convF Try.prog [54, 55, 58, 69, 70, 71, 72, 73, 84, 89, 94, 95, 113, 114, 115, 130, 134, 143, 146, 161] Try.f188 [([1], []), ([3], []), ([2], [])] = some (x_ileadHead, r_ileadHead) := by kernel_rfl
def us_ileadHead :=  (aI @u188_0 (aI @u188_1 @u188_2))
abbrev b165_1 : X := (.reg [6, 7, 11, 12, 13] (.c (.q 21 [] (.mv (.t 7))) (.c (.q 22 [] (.mv (.t 9))) (.c (.e (some 23) [] (.call false 183 [(.t 21), (.t 22)])) (.c (.q 7 [] (.mv (.t 23))) .nil)))))
def t165_1 := b165_1
theorem u165_1 : vcK P t165_1 k e w = vcK P b165_1 k e w := rfl
abbrev b165_2 : X := (.seq (.reg [6, 7, 9, 11, 12, 13] (.c (.q 17 [] (.mv (.t 6))) (.c (.q 18 [] (.mv (.t 7))) (.c (.e (some 19) [] (.bsl 9 1 [(.t 18)])) (.c (.e (some 20) [] (.app 24 9 1 16 [(S [])] 24 (.t 17) (.t 19))) (.c (.q 6 [] (.mv (.t 20))) .nil)))))) t165_1)
def t165_2 := b165_2
theorem u165_2 : vcK P t165_2 k e w = vcK P b165_2 k e w := rfl
abbrev b165_3 : X := (.reg [6, 7, 11, 12, 13] (.c (.q 24 [] (.bin .add (.t 13) (.c (.int .i64 1)))) (.c (.q 13 [] (.mv (.t 24))) .nil)))
def t165_3 := b165_3
theorem u165_3 : vcK P t165_3 k e w = vcK P b165_3 k e w := rfl
abbrev b165_4 : X := (.seq (.blk 1 (.seq (.reg [6, 7, 9, 11, 12, 13] (.c (.q 15 [] (.ia 1 (.t 11) (.t 13))) (.c (.q 16 [] (.ld (.t 15))) (.c (.q 9 [] (.mv (.t 16))) .nil)))) t165_2)) t165_3)
def t165_4 := b165_4
theorem u165_4 : vcK P t165_4 k e w = vcK P b165_4 k e w := rfl
abbrev b165_5 : X := (.seq (.cond (.t 14) .skip (.exit 0)) t165_4)
def t165_5 := b165_5
theorem u165_5 : vcK P t165_5 k e w = vcK P b165_5 k e w := rfl
abbrev b165_6 : X := (.seq (.reg [6, 7, 11, 12, 13, 14] (.c (.q 14 [] (.bin .lss (.t 13) (.t 12))) .nil)) t165_5)
def t165_6 := b165_6
theorem u165_6 : vcK P t165_6 k e w = vcK P b165_6 k e w := rfl
abbrev b165_7 : X := (.blk 0 (.loop [6, 7, 13] [11, 12] t165_6))
def t165_7 := b165_7
theorem u165_7 : vcK P t165_7 k e w = vcK P b165_7 k e w := rfl
abbrev b165_8 : X := (.seq (.reg [4, 5] (.c (.q 25 [] (.mv (.t 6))) (.c (.q 26 [] (.mv (.t 7))) (.c (.q 4 [] (.mv (.t 25))) (.c (.q 5 [] (.mv (.t 26))) .nil))))) .ret)
def t165_8 := b165_8
theorem u165_8 : vcK P t165_8 k e w = vcK P b165_8 k e w := rfl
abbrev b165_9 : X := (.seq (.seq (.reg [6, 7, 11, 12, 13] (.c (.q 11 [] (.mv (.t 0))) (.c (.q 12 [] (.lens (.t 11))) (.c (.q 13 [] (.mv (.c (.int .i64 0)))) .nil)))) t165_7) t165_8)
def t165_9 := b165_9
theorem u165_9 : vcK P t165_9 k e w = vcK P b165_9 k e w := rfl
abbrev b165_10 : X := (.seq (.reg [0, 6, 7] (.c (.q 10 [] (.mv (.t 1))) (.c (.q 7 [] (.mv (.t 10))) .nil))) t165_9)
def t165_10 := b165_10
theorem u165_10 : vcK P t165_10 k e w = vcK P b165_10 k e w := rfl
abbrev b165_11 : X := (.seq (.reg [0, 1, 6] (.c (.q 6 [] (.mv (.c (.slice none 0 0)))) .nil)) t165_10)
def t165_11 := b165_11
theorem u165_11 : vcK P t165_11 k e w = vcK P b165_11 k e w := rfl
abbrev b165_0 : X := (.seq (.reg [0, 1] (.c (.q 4 [] (.mv (.c (.slice none 0 0)))) (.c (.q 5 [] (.mv (.s []))) .nil))) t165_11)
def x_sl4Lead := b165_0
theorem u165_0 : vcK P x_sl4Lead k e w = vcK P b165_0 k e w := rfl
def r_sl4Lead : List XO := [(.mv (.t 4)), (.mv (.t 5))]
theorem c_sl4Lead : convF Try.prog [54, 55, 58, 69, 70, 71, 72, 73, 84, 89, 94, 95, 113, 114, 115, 130, 134, 143, 146, 161] Try.f165 [([0, 1], []), ([0, 1, 6], []), ([0, 6, 7], []), ([6, 7, 11, 12, 13], []), ([6, 7, 13], [11, 12]), ([6, 7, 11, 12, 13, 14], []), ([6, 7, 9, 11, 12, 13], []), ([6, 7, 9, 11, 12, 13], []), ([6, 7, 11, 12, 13], []), ([6, 7, 11, 12, 13], []), ([4, 5], [])] = some (x_sl4Lead, r_sl4Lead) := by kernel_rfl
def us_sl4Lead :=  (aI (aI (aI @u165_0 (aI @u165_1 @u165_2)) (aI @u165_3 (aI @u165_4 @u165_5))) (aI (aI @u165_6 (aI @u165_7 @u165_8)) (aI @u165_9 (aI @u165_10 @u165_11))))
abbrev b97_1 : X := (.cond (.t 11) (.seq (.reg [4] (.c (.q 4 [] (.mv (.c (.int .i64 (-1))))) .nil)) .ret) .skip)
def t97_1 := b97_1
theorem u97_1 : vcK P t97_1 k e w = vcK P b97_1 k e w := rfl
abbrev b97_2 : X := (.cond (.t 17) (.seq (.reg [4] (.c (.q 4 [] (.mv (.c (.int .i64 (-1))))) .nil)) .ret) .skip)
def t97_2 := b97_2
theorem u97_2 : vcK P t97_2 k e w = vcK P b97_2 k e w := rfl
abbrev b97_3 : X := (.seq (.reg [4] (.c (.q 18 [] (.mv (.t 1))) (.c (.q 4 [] (.mv (.t 18))) .nil))) .ret)
def t97_3 := b97_3
theorem u97_3 : vcK P t97_3 k e w = vcK P b97_3 k e w := rfl
abbrev b97_4 : X := (.seq (.seq (.reg [1, 17] (.c (.q 16 [] (.mv (.t 1))) (.c (.q 17 [] (.bin .lss (.t 16) (.c (.int .i64 0)))) .nil))) t97_2) t97_3)
def t97_4 := b97_4
theorem u97_4 : vcK P t97_4 k e w = vcK P b97_4 k e w := rfl
abbrev b97_5 : X := (.seq (.reg [1] (.c (.q 12 [] (.fa 2 (.t 2))) (.c (.q 13 [] (.ld (.t 12))) (.c (.q 14 [] (.mv (.t 1))) (.c (.e (some 15) [] (.call false 148 [(.t 13), (.t 14)])) (.c (.q 1 [] (.mv (.t 15))) .nil)))))) t97_4)
def t97_5 := b97_5
theorem u97_5 : vcK P t97_5 k e w = vcK P b97_5 k e w := rfl
abbrev b97_6 : X := (.seq (.seq (.reg [1, 2, 11] (.c (.q 10 [] (.mv (.t 1))) (.c (.q 11 [] (.bin .lss (.t 10) (.c (.int .i64 0)))) .nil))) t97_1) t97_5)
def t97_6 := b97_6
theorem u97_6 : vcK P t97_6 k e w = vcK P b97_6 k e w := rfl
abbrev b97_7 : X := (.seq (.reg [1, 2] (.c (.q 5 [] (.mv (.t 1))) (.c (.q 6 [] (.fa 0 (.t 2))) (.c (.q 7 [] (.ld (.t 6))) (.c (.q 8 [] (.len (.t 7))) (.c (.q 9 [] (.bin .sub (.t 5) (.t 8))) (.c (.q 1 [] (.mv (.t 9))) .nil))))))) t97_6)
def t97_7 := b97_7
theorem u97_7 : vcK P t97_7 k e w = vcK P b97_7 k e w := rfl
abbrev b97_0 : X := (.seq (.reg [1, 2] (.c (.e (some 2) [] (.box 116 (.t 0))) (.c (.q 4 [] (.mv (.c (.int .i64 0)))) .nil))) t97_7)
def x_lszMethod := b97_0
theorem u97_0 : vcK P x_lszMethod k e w = vcK P b97_0 k e w := rfl
def r_lszMethod : List XO := [(.mv (.t 4))]
theorem c_lszMethod : convF Try.prog [54, 55, 58, 69, 70, 71, 72, 73, 84, 89, 94, 95, 113, 114, 115, 130, 134, 143, 146, 161] Try.f97 [([1, 2], []), ([1, 2], []), ([1, 2, 11], []), ([4], []), ([1], []), ([1, 17], []), ([4], []), ([4], [])] = some (x_lszMethod, r_lszMethod) := by kernel_rfl
def us_lszMethod :=  (aI (aI (aI @u97_0 @u97_1) (aI @u97_2 @u97_3)) (aI (aI @u97_4 @u97_5) (aI @u97_6 @u97_7)))
abbrev b104_1 : X := (.seq (.reg [2] (.c (.q 14 [] (.lda 3 (.t 3))) (.c (.e none [] (.st 3 (.t 2) (.t 14))) .nil))) .ret)
def t104_1 := b104_1
theorem u104_1 : vcK P t104_1 k e w = vcK P b104_1 k e w := rfl
abbrev b104_2 : X := (.seq (.reg [2, 3] (.c (.q 10 [] (.fa 2 (.t 1))) (.c (.q 11 [] (.ld (.t 10))) (.c (.e (some 12) [] (.call false 155 [(.t 11)])) (.c (.q 13 [] (.fa 2 (.t 3))) (.c (.e none [] (.st 1 (.t 13) (.t 12))) .nil)))))) t104_1)
def t104_2 := b104_2
theorem u104_2 : vcK P t104_2 k e w = vcK P b104_2 k e w := rfl
abbrev b104_3 : X := (.seq (.reg [1, 2, 3] (.c (.q 7 [] (.fa 1 (.t 1))) (.c (.q 8 [] (.ld (.t 7))) (.c (.q 9 [] (.fa 1 (.t 3))) (.c (.e none [] (.st 1 (.t 9) (.t 8))) .nil))))) t104_2)
def t104_3 := b104_3
theorem u104_3 : vcK P t104_3 k e w = vcK P b104_3 k e w := rfl
abbrev b104_4 : X := (.seq (.reg [1, 2, 3] (.c (.q 4 [] (.fa 0 (.t 1))) (.c (.q 5 [] (.ld (.t 4))) (.c (.q 6 [] (.fa 0 (.t 3))) (.c (.e none [] (.st 1 (.t 6) (.t 5))) .nil))))) t104_3)
def t104_4 := b104_4
theorem u104_4 : vcK P t104_4 k e w = vcK P b104_4 k e w := rfl
abbrev b104_5 : X := (.seq (.reg [1, 2, 3] (.c (.e (some 3) [] (.al 68 [(S []), (.int .i64 0), (.slice none 0 0)])) .nil)) t104_4)
def t104_5 := b104_5
theorem u104_5 : vcK P t104_5 k e w = vcK P b104_5 k e w := rfl
abbrev b104_0 : X := (.seq (.reg [1, 2] (.c (.e (some 1) [] (.box 116 (.t 0))) (.c (.e (some 2) [] (.al 68 [(S []), (.int .i64 0), (.slice none 0 0)])) .nil))) t104_5)
def x_ltoMethod := b104_0
theorem u104_0 : vcK P x_ltoMethod k e w = vcK P b104_0 k e w := rfl
def r_ltoMethod : List XO := [(.lda 3 (.t 2))]
theorem c_ltoMethod : convF Try.prog [54, 55, 58, 69, 70, 71, 72, 73, 84, 89, 94, 95, 113, 114, 115, 130, 134, 143, 146, 161] Try.f104 [([1, 2], []), ([1, 2, 3], []), ([1, 2, 3], []), ([1, 2, 3], []), ([2, 3], []), ([2], [])] = some (x_ltoMethod, r_ltoMethod) := by kernel_rfl
def us_ltoMethod :=  (aI (aI @u104_0 (aI @u104_1 @u104_2)) (aI @u104_3 (aI @u104_4 @u104_5)))
abbrev b112_1 : X := (.cond (.t 9) (.seq (.reg [4] (.c (.q 4 [] (.mv (.c (.bool false)))) .nil)) .ret) .skip)
def t112_1 := b112_1
theorem u112_1 : vcK P t112_1 k e w = vcK P b112_1 k e w := rfl
abbrev b112_2 : X := (.cond (.t 14) (.seq (.reg [4] (.c (.q 4 [] (.mv (.c (.bool false)))) .nil)) .ret) .skip)
def t112_2 := b112_2
theorem u112_2 : vcK P t112_2 k e w = vcK P b112_2 k e w := rfl
abbrev b112_3 : X := (.cond (.t 20) (.seq (.reg [4] (.c (.q 4 [] (.mv (.c (.bool false)))) .nil)) .ret) .skip)
def t112_3 := b112_3
theorem u112_3 : vcK P t112_3 k e w = vcK P b112_3 k e w := rfl
abbrev b112_4 : X := (.seq (.reg [4] (.c (.q 4 [] (.mv (.c (.bool true)))) .nil)) .ret)
def t112_4 := b112_4
theorem u112_4 : vcK P t112_4 k e w = vcK P b112_4 k e w := rfl
abbrev b112_5 : X := (.seq (.seq (.reg [20] (.c (.q 15 [] (.fa 2 (.t 2))) (.c (.q 16 [] (.ld (.t 15))) (.c (.q 17 [] (.fa 2 (.t 3))) (.c (.q 18 [] (.ld (.t 17))) (.c (.e (some 19) [] (.call false 160 [(.t 16), (.t 18)])) (.c (.q 20 [] (.not (.t 19))) .nil))))))) t112_3) t112_4)
def t112_5 := b112_5
theorem u112_5 : vcK P t112_5 k e w = vcK P b112_5 k e w := rfl
abbrev b112_6 : X := (.seq (.seq (.reg [2, 3, 14] (.c (.q 10 [] (.fa 1 (.t 2))) (.c (.q 11 [] (.ld (.t 10))) (.c (.q 12 [] (.fa 1 (.t 3))) (.c (.q 13 [] (.ld (.t 12))) (.c (.q 14 [] (.bin .neq (.t 11) (.t 13))) .nil)))))) t112_2) t112_5)
def t112_6 := b112_6
theorem u112_6 : vcK P t112_6 k e w = vcK P b112_6 k e w := rfl
abbrev b112_7 : X := (.seq (.seq (.reg [2, 3, 9] (.c (.q 5 [] (.fa 0 (.t 2))) (.c (.q 6 [] (.ld (.t 5))) (.c (.q 7 [] (.fa 0 (.t 3))) (.c (.q 8 [] (.ld (.t 7))) (.c (.q 9 [] (.bin .neq (.t 6) (.t 8))) .nil)))))) t112_1) t112_6)
def t112_7 := b112_7
theorem u112_7 : vcK P t112_7 k e w = vcK P b112_7 k e w := rfl
abbrev b112_0 : X := (.seq (.reg [2, 3] (.c (.e (some 2) [] (.box 68 (.t 0))) (.c (.e (some 3) [] (.box 68 (.t 1))) (.c (.q 4 [] (.mv (.c (.bool false)))) .nil)))) t112_7)
def x_leqMethod := b112_0
theorem u112_0 : vcK P x_leqMethod k e w = vcK P b112_0 k e w := rfl
def r_leqMethod : List XO := [(.mv (.t 4))]
theorem c_leqMethod : convF Try.prog [54, 55, 58, 69, 70, 71, 72, 73, 84, 89, 94, 95, 113, 114, 115, 130, 134, 143, 146, 161] Try.f112 [([2, 3], []), ([2, 3, 9], []), ([4], []), ([2, 3, 14], []), ([4], []), ([20], []), ([4], []), ([4], [])] = some (x_leqMethod, r_leqMethod) := by kernel_rfl
def us_leqMethod :=  (aI (aI (aI @u112_0 @u112_1) (aI @u112_2 @u112_3)) (aI (aI @u112_4 @u112_5) (aI @u112_6 @u112_7)))
end
/-- A method's cells. -/
def fM (nm : List UInt8) (st : Int) (x : Value) : List Value := [S nm, .int .i64 st, x]
/-- A method's value: its changes are the slice x. -/
abbrev mV (nm : List UInt8) (st : Int) (x : Value) : Value := .agg ⟨fM nm st x⟩
theorem fMg (nm : List UInt8) (st : Int) (x : Value) : (∀ v, (fM nm st x).getD 0 v = S nm) ∧ (∀ v, (fM nm st x).getD 1 v = .int .i64 st) ∧ (∀ v, (fM nm st x).getD 2 v = x) ∧ (fM nm st x).length = 3 := ⟨fun _ => rfl, fun _ => rfl, fun _ => rfl, rfl⟩
theorem fM_one (nm : List UInt8) (st : Int) (x : Value) (h : x.oneCell' = true) : ∀ u ∈ fM nm st x, u.oneCell' = true := fun u hu => by
  simp only [fM, List.mem_cons, List.not_mem_nil, or_false] at hu
  rcases hu with rfl | rfl | rfl
  · rfl
  · rfl
  · exact h
theorem Sq.one' {α : Type} {f : α → List Value} {z : Nat} {w : World} {v : Value} {l : List α} (h : Sq f z w v l) : v.oneCell' = true := by
  rcases h.2.2 with ⟨rfl, _⟩ | ⟨a, c, rfl, _⟩ <;> rfl
def WordUp (l : List UInt8) (k : Nat) : Prop := ∀ i < k, 97 ≤ (l.getD i 0).toNat ∧ (l.getD i 0).toNat ≤ 122
instance (l : List UInt8) (k : Nat) : Decidable (WordUp l k) := by unfold WordUp; infer_instance
theorem WordUp.succ {l : List UInt8} {k : Nat} (h : WordUp l k) (h1 : 97 ≤ (l.getD k 0).toNat ∧ (l.getD k 0).toNat ≤ 122) : WordUp l (k + 1) := fun i hi => by
  by_cases he : i = k
  · subst he; exact h1
  · exact h i (by omega)
def IsWord (l : List UInt8) : Prop := WordUp l l.length ∧ 1 ≤ l.length ∧ l.length ≤ 10
instance (l : List UInt8) : Decidable (IsWord l) := by unfold IsWord; infer_instance
/-- A valid method. -/
def IsMethod (nm : List UInt8) (st : Int) (cs : List (List UInt8)) : Prop := IsWord nm ∧ (3 ≤ st ∧ st ≤ 8) ∧ (1 ≤ cs.length ∧ cs.length ≤ 40) ∧ ∀ c ∈ cs, IsChange st c
instance (nm : List UInt8) (st : Int) (cs : List (List UInt8)) : Decidable (IsMethod nm st cs) := by unfold IsMethod; infer_instance
theorem iisWord_ok (l : List UInt8) (hl : l.length ≤ 1048576) (w : World) : Fn 209 [S l] w (fun v _ => v = .bool (decide (IsWord l))) := by
  (refine callsV_of mix Try.func209 c_iisWord ?_; simp only [↓vsd, vsn, gW, qd, qv, ev, pick, argE, zipE, ne_eq, eq_self, forall_const, implies_true, if_true, if_false, reduceIte, reduceCtorEq, Nat.reduceEqDiff, Nat.reduceAdd, Nat.reduceLT, ↓us_iisWord, r_iisWord])
  refine m_upto l.length (fun k vs w' => vs = [.int .i64 k] ∧ WordUp l k ∧ Ext w w') ⟨rfl, fun i hi => absurd hi (Nat.not_lt_zero i), Ext.refl _⟩ ?_
  rintro k vs w1 hk ⟨rfl, hup, hx⟩
  by_cases hlt : k < l.length
  · have hltI : (k : Int) < l.length := by omega
    have hltJ : ¬ (l.length : Int) ≤ k := by omega
    simp only [↓vsd, vsn, gW, qd, qv, ev, pick, argE, zipE, ne_eq, eq_self, forall_const, implies_true, if_true, if_false, reduceIte, reduceCtorEq, Nat.reduceEqDiff, Nat.reduceAdd, Nat.reduceLT, ↓us_iisWord, r_iisWord, hltI, hltJ]
    have hcl := (l.getD k 0).toNat_lt
    refine ⟨by omega, fun _ => by omega, fun hbad => ⟨hx, ?_⟩, fun hgood => ⟨inR_i64 (by omega), UpTo.next hlt ⟨rfl, hup.succ (by omega), hx⟩⟩⟩
    have : ¬ IsWord l := fun h => by have := h.1 k hlt; omega
    simp only [this, decide_false]
  · obtain rfl : k = l.length := by omega
    have hltI : ¬ (l.length : Int) < l.length := by omega
    simp only [↓vsd, vsn, gW, qd, qv, ev, pick, argE, zipE, ne_eq, eq_self, forall_const, implies_true, if_true, if_false, reduceIte, reduceCtorEq, Nat.reduceEqDiff, Nat.reduceAdd, Nat.reduceLT, ↓us_iisWord, r_iisWord, hltI]
    refine ⟨hx, ?_⟩
    rw [← Bool.decide_and]
    congr 1
    exact propext ⟨fun h => ⟨hup, by omega, by omega⟩, fun h => ⟨by have := h.2.1; omega, by have := h.2.2; omega⟩⟩
theorem sl4Name_ok (l : List UInt8) (hl : l.length ≤ 1048576) (w : World) : Fn 185 [S l] w (fun v _ => v = .bool (decide (IsWord l))) := by
  (refine callsV_of mix Try.func185 c_sl4Name ?_; simp only [↓vsd, vsn, gW, qd, qv, ev, pick, argE, zipE, ne_eq, eq_self, forall_const, implies_true, if_true, if_false, reduceIte, reduceCtorEq, Nat.reduceEqDiff, Nat.reduceAdd, Nat.reduceLT, ↓us_sl4Name, r_sl4Name])
  refine m_upto l.length (fun k vs w' => vs = [.int .i64 k] ∧ WordUp l k ∧ Ext w w') ⟨rfl, fun i hi => absurd hi (Nat.not_lt_zero i), Ext.refl _⟩ ?_
  rintro k vs w1 hk ⟨rfl, hup, hx⟩
  by_cases hlt : k < l.length
  · have hltI : (k : Int) < l.length := by omega
    have hltJ : ¬ (l.length : Int) ≤ k := by omega
    simp only [↓vsd, vsn, gW, qd, qv, ev, pick, argE, zipE, ne_eq, eq_self, forall_const, implies_true, if_true, if_false, reduceIte, reduceCtorEq, Nat.reduceEqDiff, Nat.reduceAdd, Nat.reduceLT, ↓us_sl4Name, r_sl4Name, hltI, hltJ]
    have hcl := (l.getD k 0).toNat_lt
    refine ⟨by omega, fun _ => by omega, fun hbad => ⟨hx, ?_⟩, fun hgood => ⟨inR_i64 (by omega), UpTo.next hlt ⟨rfl, hup.succ (by omega), hx⟩⟩⟩
    have : ¬ IsWord l := fun h => by have := h.1 k hlt; omega
    simp only [this, decide_false]
  · obtain rfl : k = l.length := by omega
    have hltI : ¬ (l.length : Int) < l.length := by omega
    simp only [↓vsd, vsn, gW, qd, qv, ev, pick, argE, zipE, ne_eq, eq_self, forall_const, implies_true, if_true, if_false, reduceIte, reduceCtorEq, Nat.reduceEqDiff, Nat.reduceAdd, Nat.reduceLT, ↓us_sl4Name, r_sl4Name, hltI]
    refine m_call (sl1In_ok _ _ _ _) ?_
    rintro _ w2 hx2 rfl
    simp only [↓vsd, vsn, gW, qd, qv, ev, pick, argE, zipE, ne_eq, eq_self, forall_const, implies_true, if_true, if_false, reduceIte, reduceCtorEq, Nat.reduceEqDiff, Nat.reduceAdd, Nat.reduceLT, ↓us_sl4Name, r_sl4Name]
    refine ⟨hx.trans hx2, ?_⟩
    rw [← Bool.decide_and]
    congr 1
    exact propext ⟨fun h => ⟨hup, by omega, by omega⟩, fun h => ⟨by have := h.2.1; omega, by have := h.2.2; omega⟩⟩
theorem iareChanges_ok (n : Int) (v : Value) (cs : List (List UInt8)) (hs : ∀ c ∈ cs, c.length ≤ 1048576) (hl : cs.length ≤ 1000000000) (w : World) (h : Sq fS 1 w v cs) : Fn 78 [.int .i64 n, v] w (fun r _ => r = .bool (decide ((1 ≤ cs.length ∧ cs.length ≤ 40) ∧ ∀ c ∈ cs, IsChange n c))) := by
  (refine callsV_of mix Try.func78 c_iareChanges ?_; simp only [↓vsd, vsn, gW, qd, qv, ev, pick, argE, zipE, ne_eq, eq_self, forall_const, implies_true, if_true, if_false, reduceIte, reduceCtorEq, Nat.reduceEqDiff, Nat.reduceAdd, Nat.reduceLT, ↓us_iareChanges, r_iareChanges])
  simp only [↓vsd, vsn, gW, qd, qv, ev, pick, argE, zipE, ne_eq, eq_self, forall_const, implies_true, if_true, if_false, reduceIte, reduceCtorEq, Nat.reduceEqDiff, Nat.reduceAdd, Nat.reduceLT, ↓us_iareChanges, r_iareChanges, h.facts]
  refine ⟨fun hbad => ⟨Ext.refl _, ?_⟩, fun hgood => ?_⟩
  · have : ¬ ((1 ≤ cs.length ∧ cs.length ≤ 40) ∧ ∀ c ∈ cs, IsChange n c) := fun hh => by have := hh.1; omega
    simp only [this, decide_false]
  refine m_upto cs.length (fun k vs w' => vs = [.int .i64 k] ∧ (∀ c ∈ cs.take k, IsChange n c) ∧ Ext w w') ⟨rfl, by simp, Ext.refl _⟩ ?_
  rintro k vs w1 hk ⟨rfl, hall, hx⟩
  have hq := h.ext hx
  by_cases hlt : k < cs.length
  · have hltI : (k : Int) < cs.length := by omega
    have hltJ : ¬ (cs.length : Int) ≤ k := by omega
    simp only [↓vsd, vsn, gW, qd, qv, ev, pick, argE, zipE, ne_eq, eq_self, forall_const, implies_true, if_true, if_false, reduceIte, reduceCtorEq, Nat.reduceEqDiff, Nat.reduceAdd, Nat.reduceLT, ↓us_iareChanges, r_iareChanges, hq.facts, hq.at1 [] hlt, hltI, hltJ]
    refine ⟨by omega, m_call (iGoodChange_ok n _ (hs _ (getD_mem [] hlt)) _) ?_⟩
    rintro _ w2 hx2 rfl
    simp only [↓vsd, vsn, gW, qd, qv, ev, pick, argE, zipE, ne_eq, eq_self, forall_const, implies_true, if_true, if_false, reduceIte, reduceCtorEq, Nat.reduceEqDiff, Nat.reduceAdd, Nat.reduceLT, ↓us_iareChanges, r_iareChanges]
    refine ⟨fun hbad => ⟨hx.trans hx2, ?_⟩, fun hg => ⟨inR_i64 (by omega), UpTo.next hlt ⟨rfl, fun c hc => ?_, hx.trans hx2⟩⟩⟩
    · have : ¬ ((1 ≤ cs.length ∧ cs.length ≤ 40) ∧ ∀ c ∈ cs, IsChange n c) := fun hh => hbad (hh.2 _ (getD_mem [] hlt))
      simp only [this, decide_false]
    · rcases mem_take (d := []) hlt hc with h | rfl
      · exact hall c h
      · exact hg
  · obtain rfl : k = cs.length := by omega
    have hltI : ¬ (cs.length : Int) < cs.length := by omega
    simp only [↓vsd, vsn, gW, qd, qv, ev, pick, argE, zipE, ne_eq, eq_self, forall_const, implies_true, if_true, if_false, reduceIte, reduceCtorEq, Nat.reduceEqDiff, Nat.reduceAdd, Nat.reduceLT, ↓us_iareChanges, r_iareChanges, hltI]
    rw [List.take_length] at hall
    exact ⟨hx, by simp only [decide_eq_true (show (1 ≤ cs.length ∧ cs.length ≤ 40) ∧ ∀ c ∈ cs, IsChange n c from ⟨by omega, hall⟩)]⟩
theorem iGoodMethod_ok (nm : List UInt8) (st : Int) (v : Value) (cs : List (List UInt8)) (hnm : nm.length ≤ 1048576) (hs : ∀ c ∈ cs, c.length ≤ 1048576) (hl : cs.length ≤ 1000000000) (w : World) (h : Sq fS 1 w v cs) : Fn 186 [mV nm st v] w (fun r _ => r = .bool (decide (IsMethod nm st cs))) := by
  (refine callsV_of mix Try.func186 c_iGoodMethod ?_; simp only [↓vsd, vsn, gW, qd, qv, ev, pick, argE, zipE, ne_eq, eq_self, forall_const, implies_true, if_true, if_false, reduceIte, reduceCtorEq, Nat.reduceEqDiff, Nat.reduceAdd, Nat.reduceLT, ↓us_iGoodMethod, r_iGoodMethod])
  refine m_al ?_
  rintro b w1 hb hblk hx1 hs1
  have h1 : Blk w1 b (fM nm st v) 68 := hblk
  have hq1 := h.ext hx1
  simp only [↓vsd, vsn, gW, qd, qv, ev, pick, argE, zipE, ne_eq, eq_self, forall_const, implies_true, if_true, if_false, reduceIte, reduceCtorEq, Nat.reduceEqDiff, Nat.reduceAdd, Nat.reduceLT, ↓us_iGoodMethod, r_iGoodMethod, h1.facts, fMg]
  refine m_call (iisWord_ok nm (by omega) _) ?_
  rintro _ w2 hx2 rfl
  have h2 := h1.ext hx2
  simp only [↓vsd, vsn, gW, qd, qv, ev, pick, argE, zipE, ne_eq, eq_self, forall_const, implies_true, if_true, if_false, reduceIte, reduceCtorEq, Nat.reduceEqDiff, Nat.reduceAdd, Nat.reduceLT, ↓us_iGoodMethod, r_iGoodMethod, h2.facts, fMg]
  have hx12 := hx1.trans hx2
  refine ⟨fun hw => ?_, fun hw => ⟨hx12, ?_⟩⟩
  · refine m_call (iareChanges_ok st v cs hs hl _ (h.ext hx12)) ?_
    rintro _ w3 hx3 rfl
    simp only [↓vsd, vsn, gW, qd, qv, ev, pick, argE, zipE, ne_eq, eq_self, forall_const, implies_true, if_true, if_false, reduceIte, reduceCtorEq, Nat.reduceEqDiff, Nat.reduceAdd, Nat.reduceLT, ↓us_iGoodMethod, r_iGoodMethod]
    refine ⟨hx12.trans hx3, ?_⟩
    rw [← Bool.decide_and]
    congr 1
    refine propext ⟨fun hh => ⟨hw, ?_, hh.2.1, hh.2.2⟩, fun hh => ⟨hw, hh.2.2.1, hh.2.2.2⟩⟩
    exact (hh.2.2 _ (getD_mem [] (show 0 < cs.length by have := hh.2.1; omega))).1
  · have : ¬ IsMethod nm st cs := fun hh => hw hh.1
    simp only [this, decide_false]
theorem sl4Good_ok (nm : List UInt8) (st : Int) (v : Value) (cs : List (List UInt8)) (hnm : nm.length ≤ 1048576) (hs : ∀ c ∈ cs, c.length ≤ 1048576) (hl : cs.length ≤ 1000000000) (w : World) (h : Sq fS 1 w v cs) : Fn 152 [mV nm st v] w (fun r _ => r = .bool (decide (IsMethod nm st cs))) := by
  (refine callsV_of mix Try.func152 c_sl4Good ?_; simp only [↓vsd, vsn, gW, qd, qv, ev, pick, argE, zipE, ne_eq, eq_self, forall_const, implies_true, if_true, if_false, reduceIte, reduceCtorEq, Nat.reduceEqDiff, Nat.reduceAdd, Nat.reduceLT, ↓us_sl4Good, r_sl4Good])
  refine m_al ?_
  rintro b w1 hb hblk hx1 hs1
  have h1 : Blk w1 b (fM nm st v) 68 := hblk
  have hq1 := h.ext hx1
  simp only [↓vsd, vsn, gW, qd, qv, ev, pick, argE, zipE, ne_eq, eq_self, forall_const, implies_true, if_true, if_false, reduceIte, reduceCtorEq, Nat.reduceEqDiff, Nat.reduceAdd, Nat.reduceLT, ↓us_sl4Good, r_sl4Good, h1.facts, fMg, hq1.facts]
  refine m_upto cs.length (fun k vs w' => vs = [.int .i64 k] ∧ (∀ c ∈ cs.take k, IsChange st c) ∧ Ext w1 w') ⟨rfl, by simp, Ext.refl _⟩ ?_
  rintro k vs w2 hk ⟨rfl, hall, hx⟩
  have hq := hq1.ext hx
  have h2 := h1.ext hx
  have hx2 := hx1.trans hx
  by_cases hlt : k < cs.length
  · have hltI : (k : Int) < cs.length := by omega
    have hltJ : ¬ (cs.length : Int) ≤ k := by omega
    simp only [↓vsd, vsn, gW, qd, qv, ev, pick, argE, zipE, ne_eq, eq_self, forall_const, implies_true, if_true, if_false, reduceIte, reduceCtorEq, Nat.reduceEqDiff, Nat.reduceAdd, Nat.reduceLT, ↓us_sl4Good, r_sl4Good, hq.facts, hq.at1 [] hlt, hltI, hltJ, h2.facts, fMg]
    refine ⟨by omega, m_call (sl2Change_ok st _ (hs _ (getD_mem [] hlt)) _) ?_⟩
    rintro _ w3 hx3 rfl
    simp only [↓vsd, vsn, gW, qd, qv, ev, pick, argE, zipE, ne_eq, eq_self, forall_const, implies_true, if_true, if_false, reduceIte, reduceCtorEq, Nat.reduceEqDiff, Nat.reduceAdd, Nat.reduceLT, ↓us_sl4Good, r_sl4Good]
    refine ⟨fun hbad => ⟨hx2.trans hx3, ?_⟩, fun hg => ⟨inR_i64 (by omega), UpTo.next hlt ⟨rfl, fun c hc => ?_, hx.trans hx3⟩⟩⟩
    · have : ¬ IsMethod nm st cs := fun hh => hbad (hh.2.2.2 _ (getD_mem [] hlt))
      simp only [this, decide_false]
    · rcases mem_take (d := []) hlt hc with h | rfl
      · exact hall c h
      · exact hg
  · obtain rfl : k = cs.length := by omega
    have hltI : ¬ (cs.length : Int) < cs.length := by omega
    simp only [↓vsd, vsn, gW, qd, qv, ev, pick, argE, zipE, ne_eq, eq_self, forall_const, implies_true, if_true, if_false, reduceIte, reduceCtorEq, Nat.reduceEqDiff, Nat.reduceAdd, Nat.reduceLT, ↓us_sl4Good, r_sl4Good, hltI, h2.facts, fMg]
    rw [List.take_length] at hall
    refine m_call (sl4Name_ok nm (by omega) _) ?_
    rintro _ w3 hx3 rfl
    have h3 := h2.ext hx3
    simp only [↓vsd, vsn, gW, qd, qv, ev, pick, argE, zipE, ne_eq, eq_self, forall_const, implies_true, if_true, if_false, reduceIte, reduceCtorEq, Nat.reduceEqDiff, Nat.reduceAdd, Nat.reduceLT, ↓us_sl4Good, r_sl4Good, h3.facts, fMg]
    refine ⟨fun hw => ?_, fun hw => ?_⟩
    · refine m_call (sl1In_ok _ _ _ _) ?_
      rintro _ w4 hx4 rfl
      have h4 := h3.ext hx4
      have hq4 := (hq.ext hx3).ext hx4
      simp only [↓vsd, vsn, gW, qd, qv, ev, pick, argE, zipE, ne_eq, eq_self, forall_const, implies_true, if_true, if_false, reduceIte, reduceCtorEq, Nat.reduceEqDiff, Nat.reduceAdd, Nat.reduceLT, ↓us_sl4Good, r_sl4Good, h4.facts, fMg, hq4.facts]
      refine ⟨fun hh => ?_, fun hh => ⟨((hx2.trans hx3).trans hx4), ?_⟩⟩
      · refine m_call (sl1In_ok _ _ _ _) ?_
        rintro _ w5 hx5 rfl
        simp only [↓vsd, vsn, gW, qd, qv, ev, pick, argE, zipE, ne_eq, eq_self, forall_const, implies_true, if_true, if_false, reduceIte, reduceCtorEq, Nat.reduceEqDiff, Nat.reduceAdd, Nat.reduceLT, ↓us_sl4Good, r_sl4Good]
        refine ⟨((hx2.trans hx3).trans hx4).trans hx5, ?_⟩
        simp only [← Bool.decide_and]
        congr 1
        exact propext ⟨fun h5 => ⟨hh.1, hh.2, by omega, hall⟩, fun h5 => ⟨hh, by have := h5.2.2.1; omega⟩⟩
      · have : ¬ IsMethod nm st cs := fun h5 => hh ⟨h5.1, h5.2.1⟩
        simp only [this, decide_false]
    · have : ¬ IsMethod nm st cs := fun h5 => hw h5.1
      exact ⟨hx2.trans hx3, by simp only [this, decide_false]⟩
/-- A row and the rows under the first changes. -/
def rowsU (l : List UInt8) (cs : List (List UInt8)) (k : Nat) : List (List UInt8) := (List.range k).map fun i => underL l (cs.take i)
theorem Own.one {α : Type} {f : α → List Value} {z E B : Nat} {w : World} {a : α} {b : Nat} {cs : List Value} (hz : ∀ a, (f a).length = z) (hb : Blk w b cs E) (e : cs = f a) (hB : B ≤ b) : Own f z E B w (.slice (some ⟨b, 0, none⟩) 1 1) [a] :=
  ⟨hz, .inr ⟨b, 1, cs, rfl, hB, hb, Nat.le_refl _, by decide, by rw [e, hz, Nat.one_mul], by rw [e]; simp only [List.length_singleton, Nat.one_mul, List.flatMap_cons, List.flatMap_nil, List.append_nil]; rw [← hz a, List.take_length]⟩⟩
theorem rowsU_len (l : List UInt8) (cs : List (List UInt8)) (k : Nat) : (rowsU l cs k).length = k := by simp [rowsU]
theorem rowsU_get (l : List UInt8) (cs : List (List UInt8)) (k i : Nat) (h : i < k) : (rowsU l cs k).getD i [] = underL l (cs.take i) := by
  unfold rowsU
  rw [List.getD_eq_getElem?_getD, List.getElem?_map, List.getElem?_range h]; rfl
theorem irowsUnder_ok (l : List UInt8) (v : Value) (cs : List (List UInt8)) (n : Int) (hl : IsRow l) (hcs : ∀ c ∈ cs, IsChange n c) (hlen : cs.length ≤ 40) (w : World) (h : Sq fS 1 w v cs) : Fn 190 [S l, v] w (fun r w' => Own fS 1 9 w.heap.size w' r (rowsU l cs (cs.length + 1))) := by
  (refine callsV_of mix Try.func190 c_irowsUnder ?_; simp only [↓vsd, vsn, gW, qd, qv, ev, pick, argE, zipE, ne_eq, eq_self, forall_const, implies_true, if_true, if_false, reduceIte, reduceCtorEq, Nat.reduceEqDiff, Nat.reduceAdd, Nat.reduceLT, ↓us_irowsUnder, r_irowsUnder])
  refine m_bsl (one_el rfl) ?_
  rintro b w1 hb hblk hx1 hs1
  simp only [↓vsd, vsn, gW, qd, qv, ev, pick, argE, zipE, ne_eq, eq_self, forall_const, implies_true, if_true, if_false, reduceIte, reduceCtorEq, Nat.reduceEqDiff, Nat.reduceAdd, Nat.reduceLT, ↓us_irowsUnder, r_irowsUnder, h.facts]
  refine m_upto cs.length (fun k vs w' => ∃ x, vs = [S (underL l (cs.take k)), x, .int .i64 k] ∧ Own fS 1 9 w.heap.size w' x (rowsU l cs (k + 1)) ∧ Ext w w') ⟨_, rfl, ?_, hx1⟩ ?_
  · exact (Own.one fS_len hblk rfl (by omega)).to rfl
  rintro k vs w2 hk ⟨x, rfl, ho, hx⟩
  have hq := h.ext hx
  by_cases hlt : k < cs.length
  · have hltI : (k : Int) < cs.length := by omega
    have hltJ : ¬ (cs.length : Int) ≤ k := by omega
    have hc := hcs _ (getD_mem [] hlt)
    have hcl := hc.len
    have hn := hc.1
    simp only [↓vsd, vsn, gW, qd, qv, ev, pick, argE, zipE, ne_eq, eq_self, forall_const, implies_true, if_true, if_false, reduceIte, reduceCtorEq, Nat.reduceEqDiff, Nat.reduceAdd, Nat.reduceLT, ↓us_irowsUnder, r_irowsUnder, hq.facts, hq.at1 [] hlt, hltI, hltJ]
    refine ⟨by omega, m_call (iapply_ok _ _ (underL_row _ hl) (by omega) hc.dig _) ?_⟩
    rintro _ w3 hx3 rfl
    simp only [↓vsd, vsn, gW, qd, qv, ev, pick, argE, zipE, ne_eq, eq_self, forall_const, implies_true, if_true, if_false, reduceIte, reduceCtorEq, Nat.reduceEqDiff, Nat.reduceAdd, Nat.reduceLT, ↓us_irowsUnder, r_irowsUnder]
    refine m_bsl (one_el rfl) ?_
    rintro b4 w4 hb4 hblk4 hx4 hs4
    simp only [↓vsd, vsn, gW, qd, qv, ev, pick, argE, zipE, ne_eq, eq_self, forall_const, implies_true, if_true, if_false, reduceIte, reduceCtorEq, Nat.reduceEqDiff, Nat.reduceAdd, Nat.reduceLT, ↓us_irowsUnder, r_irowsUnder]
    have hx34 := hx3.trans hx4
    have hrl : (rowsU l cs (k + 1)).length = k + 1 := by simp [rowsU]
    refine m_app (ho.ext hx34) (Sq.one fS_len hblk4 rfl) fS_one (by decide) (by rw [hrl]; simp; omega) (by decide) ((hx.trans hx34).size) ?_
    rintro x5 w5 ho5 hg5
    simp only [↓vsd, vsn, gW, qd, qv, ev, pick, argE, zipE, ne_eq, eq_self, forall_const, implies_true, if_true, if_false, reduceIte, reduceCtorEq, Nat.reduceEqDiff, Nat.reduceAdd, Nat.reduceLT, ↓us_irowsUnder, r_irowsUnder]
    have hs := underL_snoc l cs k hlt
    exact ⟨inR_i64 (by omega), UpTo.next hlt ⟨x5, by rw [hs]; rfl, ho5.to (by rw [← hs]; simp [rowsU, List.range_succ]), (ho.ext hx34).grown (hx.trans hx34) (Nat.le_refl _) hg5⟩⟩
  · obtain rfl : k = cs.length := by omega
    have hltI : ¬ (cs.length : Int) < cs.length := by omega
    simp only [↓vsd, vsn, gW, qd, qv, ev, pick, argE, zipE, ne_eq, eq_self, forall_const, implies_true, if_true, if_false, reduceIte, reduceCtorEq, Nat.reduceEqDiff, Nat.reduceAdd, Nat.reduceLT, ↓us_irowsUnder, r_irowsUnder, hltI]
    exact ⟨hx, ho⟩
theorem sl4Lead_ok (l : List UInt8) (v : Value) (cs : List (List UInt8)) (n : Int) (hl : IsRow l) (hcs : ∀ c ∈ cs, IsChange n c) (hlen : cs.length ≤ 40) (w : World) (h : Sq fS 1 w v cs) : Fn 165 [v, S l] w (fun r w' => ∃ x, r = .tuple ⟨[x, S (underL l cs)]⟩ ∧ Own fS 1 9 w.heap.size w' x (rowsU l cs cs.length)) := by
  (refine callsV_of mix Try.func165 c_sl4Lead ?_; simp only [↓vsd, vsn, gW, qd, qv, ev, pick, argE, zipE, ne_eq, eq_self, forall_const, implies_true, if_true, if_false, reduceIte, reduceCtorEq, Nat.reduceEqDiff, Nat.reduceAdd, Nat.reduceLT, ↓us_sl4Lead, r_sl4Lead])
  simp only [↓vsd, vsn, gW, qd, qv, ev, pick, argE, zipE, ne_eq, eq_self, forall_const, implies_true, if_true, if_false, reduceIte, reduceCtorEq, Nat.reduceEqDiff, Nat.reduceAdd, Nat.reduceLT, ↓us_sl4Lead, r_sl4Lead, h.facts]
  refine m_upto cs.length (fun k vs w' => ∃ x, vs = [x, S (underL l (cs.take k)), .int .i64 k] ∧ Own fS 1 9 w.heap.size w' x (rowsU l cs k) ∧ Ext w w') ⟨_, rfl, Own.nil fS_len, Ext.refl _⟩ ?_
  rintro k vs w2 hk ⟨x, rfl, ho, hx⟩
  have hq := h.ext hx
  by_cases hlt : k < cs.length
  · have hltI : (k : Int) < cs.length := by omega
    have hltJ : ¬ (cs.length : Int) ≤ k := by omega
    have hc := hcs _ (getD_mem [] hlt)
    have hcl := hc.len
    have hn := hc.1
    simp only [↓vsd, vsn, gW, qd, qv, ev, pick, argE, zipE, ne_eq, eq_self, forall_const, implies_true, if_true, if_false, reduceIte, reduceCtorEq, Nat.reduceEqDiff, Nat.reduceAdd, Nat.reduceLT, ↓us_sl4Lead, r_sl4Lead, hq.facts, hq.at1 [] hlt, hltI, hltJ]
    refine ⟨by omega, m_bsl (one_el rfl) ?_⟩
    rintro b4 w4 hb4 hblk4 hx4 hs4
    simp only [↓vsd, vsn, gW, qd, qv, ev, pick, argE, zipE, ne_eq, eq_self, forall_const, implies_true, if_true, if_false, reduceIte, reduceCtorEq, Nat.reduceEqDiff, Nat.reduceAdd, Nat.reduceLT, ↓us_sl4Lead, r_sl4Lead]
    have hrl : (rowsU l cs k).length = k := by simp [rowsU]
    refine m_app (ho.ext hx4) (Sq.one fS_len hblk4 rfl) fS_one (by decide) (by rw [hrl]; simp; omega) (by decide) ((hx.trans hx4).size) ?_
    rintro x5 w5 ho5 hg5
    have hx5 := (ho.ext hx4).grown (hx.trans hx4) (Nat.le_refl _) hg5
    simp only [↓vsd, vsn, gW, qd, qv, ev, pick, argE, zipE, ne_eq, eq_self, forall_const, implies_true, if_true, if_false, reduceIte, reduceCtorEq, Nat.reduceEqDiff, Nat.reduceAdd, Nat.reduceLT, ↓us_sl4Lead, r_sl4Lead]
    refine m_call (sl2Apply_ok _ _ (underL_row _ hl) (by omega) _) ?_
    rintro _ w6 hx6 rfl
    simp only [↓vsd, vsn, gW, qd, qv, ev, pick, argE, zipE, ne_eq, eq_self, forall_const, implies_true, if_true, if_false, reduceIte, reduceCtorEq, Nat.reduceEqDiff, Nat.reduceAdd, Nat.reduceLT, ↓us_sl4Lead, r_sl4Lead]
    have hs := underL_snoc l cs k hlt
    exact ⟨inR_i64 (by omega), UpTo.next hlt ⟨x5, by rw [hs]; rfl, (ho5.to (by simp [rowsU, List.range_succ])).ext hx6, hx5.trans hx6⟩⟩
  · obtain rfl : k = cs.length := by omega
    have hltI : ¬ (cs.length : Int) < cs.length := by omega
    simp only [↓vsd, vsn, gW, qd, qv, ev, pick, argE, zipE, ne_eq, eq_self, forall_const, implies_true, if_true, if_false, reduceIte, reduceCtorEq, Nat.reduceEqDiff, Nat.reduceAdd, Nat.reduceLT, ↓us_sl4Lead, r_sl4Lead, hltI]
    exact ⟨hx, x, by rw [List.take_length], ho⟩
theorem ileadHead_ok (nm : List UInt8) (st : Int) (v : Value) (cs : List (List UInt8)) (hm : IsMethod nm st cs) (w : World) (h : Sq fS 1 w v cs) : Fn 188 [mV nm st v] w (fun r _ => r = S (underL (roundsL st.toNat) cs)) := by
  (refine callsV_of mix Try.func188 c_ileadHead ?_; simp only [↓vsd, vsn, gW, qd, qv, ev, pick, argE, zipE, ne_eq, eq_self, forall_const, implies_true, if_true, if_false, reduceIte, reduceCtorEq, Nat.reduceEqDiff, Nat.reduceAdd, Nat.reduceLT, ↓us_ileadHead, r_ileadHead])
  refine m_al ?_
  rintro b w1 hb hblk hx1 hs1
  have h1 : Blk w1 b (fM nm st v) 68 := hblk
  have hq1 := h.ext hx1
  simp only [↓vsd, vsn, gW, qd, qv, ev, pick, argE, zipE, ne_eq, eq_self, forall_const, implies_true, if_true, if_false, reduceIte, reduceCtorEq, Nat.reduceEqDiff, Nat.reduceAdd, Nat.reduceLT, ↓us_ileadHead, r_ileadHead, h1.facts, fMg]
  obtain ⟨s, rfl⟩ : ∃ s : Nat, st = s := ⟨st.toNat, by have := hm.2.1; omega⟩
  have hs := hm.2.1
  have hd1 : Ext w1 w1.drew := dr (Ext.refl _)
  refine m_call (irounds_ok s (by omega) _) ?_
  rintro _ w2 hx2 rfl
  have hx12 := ud hx2
  have h2 := h1.ext hx12
  simp only [↓vsd, vsn, gW, qd, qv, ev, pick, argE, zipE, ne_eq, eq_self, forall_const, implies_true, if_true, if_false, reduceIte, reduceCtorEq, Nat.reduceEqDiff, Nat.reduceAdd, Nat.reduceLT, ↓us_ileadHead, r_ileadHead, h2.facts, fMg]
  have hrow := roundsL_row s (by omega)
  refine m_call (irowsUnder_ok _ v cs s hrow hm.2.2.2 hm.2.2.1.2 _ (hq1.ext hx12)) ?_
  rintro x w3 hx3 ho3
  have hlen := rowsU_len (roundsL s) cs (cs.length + 1)
  have hI : ((cs.length + 1 : Nat) : Int) - 1 = (cs.length : Nat) := by omega
  have hge := rowsU_get (roundsL s) cs (cs.length + 1) cs.length (by omega)
  rw [List.take_length] at hge
  have hlt : cs.length < (rowsU (roundsL s) cs (cs.length + 1)).length := by omega
  simp only [↓vsd, vsn, gW, qd, qv, ev, pick, argE, zipE, ne_eq, eq_self, forall_const, implies_true, if_true, if_false, reduceIte, reduceCtorEq, Nat.reduceEqDiff, Nat.reduceAdd, Nat.reduceLT, ↓us_ileadHead, r_ileadHead, ho3.sq.facts, hlen, hI, ho3.sq.at1 [] hlt, hge]
  exact ⟨inR_i64 (by have := hm.2.2.1; omega), by omega, hx1.trans (hx12.trans hx3)⟩
theorem ltoMethod_ok (nm : List UInt8) (st : Int) (v : Value) (cs : List (List UInt8)) (hl : cs.length ≤ 1048576) (w : World) (h : Sq fS 1 w v cs) : Fn 104 [mV nm st v] w (fun r w' => ∃ x, r = mV nm st x ∧ Own fS 1 9 w.heap.size w' x cs) := by
  (refine callsV_of mix Try.func104 c_ltoMethod ?_; simp only [↓vsd, vsn, gW, qd, qv, ev, pick, argE, zipE, ne_eq, eq_self, forall_const, implies_true, if_true, if_false, reduceIte, reduceCtorEq, Nat.reduceEqDiff, Nat.reduceAdd, Nat.reduceLT, ↓us_ltoMethod, r_ltoMethod])
  refine m_al ?_
  rintro b w1 hb hblk hx1 hs1
  have h1 : Blk w1 b (fM nm st v) 116 := hblk
  have hq1 := h.ext hx1
  simp only [↓vsd, vsn, gW, qd, qv, ev, pick, argE, zipE, ne_eq, eq_self, forall_const, implies_true, if_true, if_false, reduceIte, reduceCtorEq, Nat.reduceEqDiff, Nat.reduceAdd, Nat.reduceLT, ↓us_ltoMethod, r_ltoMethod, h1.facts, fMg]
  refine m_al ?_
  rintro b2 w2 hb2 hblk2 hx2 hs2
  have h12 := h1.ext hx2
  simp only [↓vsd, vsn, gW, qd, qv, ev, pick, argE, zipE, ne_eq, eq_self, forall_const, implies_true, if_true, if_false, reduceIte, reduceCtorEq, Nat.reduceEqDiff, Nat.reduceAdd, Nat.reduceLT, ↓us_ltoMethod, r_ltoMethod, h12.facts, fMg]
  refine m_al ?_
  rintro b3 w3 hb3 hblk3 hx3 hs3
  have h13 := h12.ext hx3
  simp only [↓vsd, vsn, gW, qd, qv, ev, pick, argE, zipE, ne_eq, eq_self, forall_const, implies_true, if_true, if_false, reduceIte, reduceCtorEq, Nat.reduceEqDiff, Nat.reduceAdd, Nat.reduceLT, ↓us_ltoMethod, r_ltoMethod, h13.facts, fMg]
  have hxA := (hx1.trans hx2).trans hx3
  refine m_st hblk3 rfl (by simp) (fS_one _) ?_
  rintro w4 hblk4 hu4
  have hb4 : Blk w4 b3 (fM nm 0 (.slice none 0 0)) 68 := hblk4
  have h14 := hu4.blk h13 (by omega)
  have hx4 : Ext w w4 := hu4.below hxA (by omega)
  simp only [↓vsd, vsn, gW, qd, qv, ev, pick, argE, zipE, ne_eq, eq_self, forall_const, implies_true, if_true, if_false, reduceIte, reduceCtorEq, Nat.reduceEqDiff, Nat.reduceAdd, Nat.reduceLT, ↓us_ltoMethod, r_ltoMethod, h14.facts, fMg]
  refine m_st hb4 rfl (by decide : 1 + 1 ≤ 3) (fI_one _) ?_
  rintro w5 hblk5 hu5
  have hb5 : Blk w5 b3 (fM nm st (.slice none 0 0)) 68 := hblk5
  have h15 := hu5.blk h14 (by omega)
  have hx5 : Ext w w5 := hu5.below hx4 (by omega)
  simp only [↓vsd, vsn, gW, qd, qv, ev, pick, argE, zipE, ne_eq, eq_self, forall_const, implies_true, if_true, if_false, reduceIte, reduceCtorEq, Nat.reduceEqDiff, Nat.reduceAdd, Nat.reduceLT, ↓us_ltoMethod, r_ltoMethod, h15.facts, fMg]
  refine m_call (ltoStringS_ok v cs hl _ (h.ext hx5)) ?_
  rintro x w6 hx6 ho6
  simp only [↓vsd, vsn, gW, qd, qv, ev, pick, argE, zipE, ne_eq, eq_self, forall_const, implies_true, if_true, if_false, reduceIte, reduceCtorEq, Nat.reduceEqDiff, Nat.reduceAdd, Nat.reduceLT, ↓us_ltoMethod, r_ltoMethod]
  have hxc : x.cells = #[x] := of_eq_true ho6.sq.oneC
  have hx36 := ((Ext.refl w3).trans (Ext.refl w3))
  refine m_st (hb5.ext hx6) (by rw [hxc]; rfl) (by decide : 2 + 1 ≤ 3) (by rw [hxc]; intro u hu; simp only [List.mem_singleton] at hu; subst hu; exact ho6.sq.one') ?_
  rintro w7 hblk7 hu7
  rw [hxc] at hblk7
  have hb7 : Blk w7 b3 (fM nm st x) 68 := hblk7
  have hx7 : Ext w w7 := hu7.below (hx5.trans hx6) (by omega)
  have ho7 : Own fS 1 9 w5.heap.size w7 x cs := ho6.keep hu7.grown (fun c hc => by obtain rfl := Option.some.inj hc; exact (hb5.lt))
  simp only [↓vsd, vsn, gW, qd, qv, ev, pick, argE, zipE, ne_eq, eq_self, forall_const, implies_true, if_true, if_false, reduceIte, reduceCtorEq, Nat.reduceEqDiff, Nat.reduceAdd, Nat.reduceLT, ↓us_ltoMethod, r_ltoMethod, hb7.facts, fMg]
  have h27 := hu7.blk ((hu5.blk (hu4.blk (hblk2.ext hx3) (by omega)) (by omega)).ext hx6) (by omega)
  refine m_st h27 rfl (Nat.le_refl 3) (fM_one nm st x ho6.sq.one') ?_
  rintro w8 hblk8 hu8
  have hb8 : Blk w8 b2 (fM nm st x) 68 := hblk8
  have hx8 : Ext w w8 := hu8.below hx7 (by omega)
  have ho8 := ho7.keep hu8.grown (fun c hc => by obtain rfl := Option.some.inj hc; have := hb5.lt; have := h27.lt; have := (hu4.blk (hblk2.ext hx3) (by omega)).lt; have := (hu5.blk (hu4.blk (hblk2.ext hx3) (by omega)) (by omega)).lt; omega)
  simp only [↓vsd, vsn, gW, qd, qv, ev, pick, argE, zipE, ne_eq, eq_self, forall_const, implies_true, if_true, if_false, reduceIte, reduceCtorEq, Nat.reduceEqDiff, Nat.reduceAdd, Nat.reduceLT, ↓us_ltoMethod, r_ltoMethod, hb8.facts, fMg]
  exact ⟨hx8, x, rfl, ho8.mono hx5.size⟩
theorem leqMethod_ok (nm nm' : List UInt8) (st st' : Int) (v v' : Value) (cs cs' : List (List UInt8)) (hl : cs.length ≤ 1000000000) (w : World) (h : Sq fS 1 w v cs) (h' : Sq fS 1 w v' cs') : Fn 112 [mV nm st v, mV nm' st' v'] w (fun r _ => r = .bool (decide (nm = nm' ∧ st = st' ∧ cs = cs'))) := by
  (refine callsV_of mix Try.func112 c_leqMethod ?_; simp only [↓vsd, vsn, gW, qd, qv, ev, pick, argE, zipE, ne_eq, eq_self, forall_const, implies_true, if_true, if_false, reduceIte, reduceCtorEq, Nat.reduceEqDiff, Nat.reduceAdd, Nat.reduceLT, ↓us_leqMethod, r_leqMethod])
  refine m_al ?_
  rintro b w1 hb hblk hx1 hs1
  have h1 : Blk w1 b (fM nm st v) 68 := hblk
  have hq1 := h.ext hx1
  simp only [↓vsd, vsn, gW, qd, qv, ev, pick, argE, zipE, ne_eq, eq_self, forall_const, implies_true, if_true, if_false, reduceIte, reduceCtorEq, Nat.reduceEqDiff, Nat.reduceAdd, Nat.reduceLT, ↓us_leqMethod, r_leqMethod, h1.facts, fMg]
  refine m_al ?_
  rintro b2 w2 hb2 hblk2 hx2 hs2
  have h2 : Blk w2 b2 (fM nm' st' v') 68 := hblk2
  have h12 := h1.ext hx2
  simp only [↓vsd, vsn, gW, qd, qv, ev, pick, argE, zipE, ne_eq, eq_self, forall_const, implies_true, if_true, if_false, reduceIte, reduceCtorEq, Nat.reduceEqDiff, Nat.reduceAdd, Nat.reduceLT, ↓us_leqMethod, r_leqMethod, h12.facts, h2.facts, fMg]
  have hx12 := hx1.trans hx2
  refine ⟨fun hn => ⟨hx12, by simp [hn]⟩, fun hn => ⟨fun hs => ⟨hx12, by simp [hs]⟩, fun hs => ?_⟩⟩
  refine m_call (leqStringS_ok v v' cs cs' _ (h.ext hx12) (h'.ext hx12) hl) ?_
  rintro _ w3 hx3 rfl
  simp only [↓vsd, vsn, gW, qd, qv, ev, pick, argE, zipE, ne_eq, eq_self, forall_const, implies_true, if_true, if_false, reduceIte, reduceCtorEq, Nat.reduceEqDiff, Nat.reduceAdd, Nat.reduceLT, ↓us_leqMethod, r_leqMethod]
  have e : (nm = nm' ∧ st = st' ∧ cs = cs') = (cs = cs') := by simp [hn, hs]
  simp only [e]
  exact ⟨fun hh => ⟨hx12.trans hx3, by simp [hh]⟩, fun hh => ⟨hx12.trans hx3, by simp [hh]⟩⟩
end Go.Proofs.Ythopbkemkfjebaa
