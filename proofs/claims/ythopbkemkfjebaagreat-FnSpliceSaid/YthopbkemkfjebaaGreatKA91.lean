/-
  Splices: how they are balanced, how often they switch, a touch as a splice, their heads, of both sides.
  Conditions: none.
-/
import Derived.Test.YthopbkemkfjebaaGreatKA30
import Derived.Test.YthopbkemkfjebaaGreatKA67
set_option linter.unusedSimpArgs false
set_option linter.unusedVariables false
set_option linter.defProp false
namespace Go.Proofs.YthopbkemkfjebaaGreat
open Go Go.RowKit
section
variable (P : Program) (k : KT) (e : Env) (w : World)
abbrev b27_1 : X := (.cond (.t 11) (.seq (.reg [4, 5] (.c (.q 4 [] (.mv (.c (.slice none 0 0)))) (.c (.q 5 [] (.mv (.c (.bool false)))) .nil))) .ret) .skip)
def t27_1 := b27_1
theorem u27_1 : vcK P t27_1 k e w = vcK P b27_1 k e w := rfl
abbrev b27_2 : X := (.reg [1, 6, 17, 18] (.c (.q 21 [] (.mv (.t 6))) (.c (.q 22 [] (.mv (.t 1))) (.c (.q 23 [] (.mv (.t 7))) (.c (.e (some 24) [] (.call false 79 [(.t 22), (.t 23)])) (.c (.q 25 [] (.ia 1 (.t 21) (.t 24))) (.c (.q 26 [] (.ld (.t 25))) (.c (.q 27 [] (.bin .add (.t 26) (.c (.int .i64 1)))) (.c (.q 28 [] (.ia 1 (.t 21) (.t 24))) (.c (.e none [] (.st 1 (.t 28) (.t 27))) .nil))))))))))
def t27_2 := b27_2
theorem u27_2 : vcK P t27_2 k e w = vcK P b27_2 k e w := rfl
abbrev b27_3 : X := (.reg [1, 6, 17, 18] (.c (.q 29 [] (.bin .add (.t 18) (.c (.int .i64 1)))) (.c (.q 18 [] (.mv (.t 29))) .nil)))
def t27_3 := b27_3
theorem u27_3 : vcK P t27_3 k e w = vcK P b27_3 k e w := rfl
abbrev b27_4 : X := (.seq (.blk 1 (.seq (.reg [1, 6, 7, 17, 18] (.c (.q 20 [] (.mv (.t 18))) (.c (.q 7 [] (.mv (.t 20))) .nil))) t27_2)) t27_3)
def t27_4 := b27_4
theorem u27_4 : vcK P t27_4 k e w = vcK P b27_4 k e w := rfl
abbrev b27_5 : X := (.seq (.cond (.t 19) .skip (.exit 0)) t27_4)
def t27_5 := b27_5
theorem u27_5 : vcK P t27_5 k e w = vcK P b27_5 k e w := rfl
abbrev b27_6 : X := (.seq (.reg [1, 6, 17, 18, 19] (.c (.q 19 [] (.bin .lss (.t 18) (.t 17))) .nil)) t27_5)
def t27_6 := b27_6
theorem u27_6 : vcK P t27_6 k e w = vcK P b27_6 k e w := rfl
abbrev b27_7 : X := (.blk 0 (.loop [18] [1, 6, 17] t27_6))
def t27_7 := b27_7
theorem u27_7 : vcK P t27_7 k e w = vcK P b27_7 k e w := rfl
abbrev b27_8 : X := (.seq (.reg [4, 5] (.c (.q 30 [] (.mv (.t 6))) (.c (.q 4 [] (.mv (.t 30))) (.c (.q 5 [] (.mv (.c (.bool true)))) .nil)))) .ret)
def t27_8 := b27_8
theorem u27_8 : vcK P t27_8 k e w = vcK P b27_8 k e w := rfl
abbrev b27_9 : X := (.seq (.seq (.reg [1, 6, 17, 18] (.c (.q 15 [] (.mv (.t 1))) (.c (.q 16 [] (.len (.t 15))) (.c (.q 17 [] (.bin .quo (.t 16) (.c (.int .i64 2)))) (.c (.q 18 [] (.mv (.c (.int .i64 0)))) .nil))))) t27_7) t27_8)
def t27_9 := b27_9
theorem u27_9 : vcK P t27_9 k e w = vcK P b27_9 k e w := rfl
abbrev b27_10 : X := (.seq (.reg [1, 6] (.c (.q 12 [] (.mv (.t 0))) (.c (.q 13 [] (.lens (.t 12))) (.c (.e (some 14) [] (.msl 32 3 1 8 [(.int .i64 0)] (.t 13) (.t 13))) (.c (.q 6 [] (.mv (.t 14))) .nil))))) t27_9)
def t27_10 := b27_10
theorem u27_10 : vcK P t27_10 k e w = vcK P b27_10 k e w := rfl
abbrev b27_11 : X := (.seq (.seq (.reg [0, 1, 11] (.c (.q 8 [] (.mv (.t 0))) (.c (.q 9 [] (.mv (.t 1))) (.c (.e (some 10) [] (.call false 29 [(.t 8), (.t 9)])) (.c (.q 11 [] (.not (.t 10))) .nil))))) t27_1) t27_10)
def t27_11 := b27_11
theorem u27_11 : vcK P t27_11 k e w = vcK P b27_11 k e w := rfl
abbrev b27_0 : X := (.seq (.reg [0, 1] (.c (.q 4 [] (.mv (.c (.slice none 0 0)))) (.c (.q 5 [] (.mv (.c (.bool false)))) .nil))) t27_11)
def x_iBalanceOf := b27_0
theorem u27_0 : vcK P x_iBalanceOf k e w = vcK P b27_0 k e w := rfl
def r_iBalanceOf : List XO := [(.mv (.t 4)), (.mv (.t 5))]
theorem c_iBalanceOf : convF Tryz.prog [56, 58, 59, 60, 61, 62, 72, 73, 77, 97, 98, 109, 110, 111, 112, 115, 128, 136] Tryz.f27 [([0, 1], []), ([0, 1, 11], []), ([4, 5], []), ([1, 6], []), ([1, 6, 17, 18], []), ([18], [1, 6, 17]), ([1, 6, 17, 18, 19], []), ([1, 6, 7, 17, 18], []), ([1, 6, 17, 18], []), ([1, 6, 17, 18], []), ([4, 5], [])] = some (x_iBalanceOf, r_iBalanceOf) := by kernel_rfl
def us_iBalanceOf :=  (aI (aI (aI @u27_0 (aI @u27_1 @u27_2)) (aI @u27_3 (aI @u27_4 @u27_5))) (aI (aI @u27_6 (aI @u27_7 @u27_8)) (aI @u27_9 (aI @u27_10 @u27_11))))
abbrev b28_1 : X := (.cond (.t 12) (.seq (.reg [4, 5] (.c (.q 4 [] (.mv (.c (.slice none 0 0)))) (.c (.q 5 [] (.mv (.c (.bool false)))) .nil))) .ret) .skip)
def t28_1 := b28_1
theorem u28_1 : vcK P t28_1 k e w = vcK P b28_1 k e w := rfl
abbrev b28_2 : X := (.cond (.t 19) .skip (.exit 0))
def t28_2 := b28_2
theorem u28_2 : vcK P t28_2 k e w = vcK P b28_2 k e w := rfl
abbrev b28_3 : X := (.reg [1, 6, 7] (.c (.q 20 [] (.mv (.t 7))) (.c (.q 21 [] (.bin .add (.t 20) (.c (.int .i64 2)))) (.c (.q 7 [] (.mv (.t 21))) .nil))))
def t28_3 := b28_3
theorem u28_3 : vcK P t28_3 k e w = vcK P b28_3 k e w := rfl
abbrev b28_4 : X := (.seq (.blk 1 (.reg [1, 6, 7] (.c (.q 22 [] (.mv (.t 6))) (.c (.q 23 [] (.mv (.t 1))) (.c (.q 24 [] (.mv (.t 7))) (.c (.q 25 [] (.idx (.t 23) (.t 24))) (.c (.q 26 [] (.cvi .i64 (.t 25))) (.c (.q 27 [] (.bin .sub (.t 26) (.c (.int .i64 65)))) (.c (.q 28 [] (.ia 1 (.t 22) (.t 27))) (.c (.q 29 [] (.ld (.t 28))) (.c (.q 30 [] (.bin .add (.t 29) (.c (.int .i64 1)))) (.c (.q 31 [] (.ia 1 (.t 22) (.t 27))) (.c (.e none [] (.st 1 (.t 31) (.t 30))) .nil))))))))))))) t28_3)
def t28_4 := b28_4
theorem u28_4 : vcK P t28_4 k e w = vcK P b28_4 k e w := rfl
abbrev b28_5 : X := (.seq (.seq (.reg [1, 6, 7, 19] (.c (.q 16 [] (.mv (.t 7))) (.c (.q 17 [] (.mv (.t 1))) (.c (.q 18 [] (.len (.t 17))) (.c (.q 19 [] (.bin .lss (.t 16) (.t 18))) .nil))))) t28_2) t28_4)
def t28_5 := b28_5
theorem u28_5 : vcK P t28_5 k e w = vcK P b28_5 k e w := rfl
abbrev b28_6 : X := (.blk 0 (.loop [7] [1, 6] t28_5))
def t28_6 := b28_6
theorem u28_6 : vcK P t28_6 k e w = vcK P b28_6 k e w := rfl
abbrev b28_7 : X := (.seq (.reg [4, 5] (.c (.q 32 [] (.mv (.t 6))) (.c (.q 4 [] (.mv (.t 32))) (.c (.q 5 [] (.mv (.c (.bool true)))) .nil)))) .ret)
def t28_7 := b28_7
theorem u28_7 : vcK P t28_7 k e w = vcK P b28_7 k e w := rfl
abbrev b28_8 : X := (.seq (.seq (.reg [1, 6, 7] (.c (.q 7 [] (.mv (.c (.int .i64 0)))) .nil)) t28_6) t28_7)
def t28_8 := b28_8
theorem u28_8 : vcK P t28_8 k e w = vcK P b28_8 k e w := rfl
abbrev b28_9 : X := (.seq (.reg [1, 6] (.c (.q 13 [] (.mv (.t 0))) (.c (.q 14 [] (.lens (.t 13))) (.c (.e (some 15) [] (.msl 32 3 1 8 [(.int .i64 0)] (.t 14) (.t 14))) (.c (.q 6 [] (.mv (.t 15))) .nil))))) t28_8)
def t28_9 := b28_9
theorem u28_9 : vcK P t28_9 k e w = vcK P b28_9 k e w := rfl
abbrev b28_10 : X := (.seq (.seq (.reg [0, 1, 12] (.c (.q 8 [] (.mv (.t 0))) (.c (.q 9 [] (.lens (.t 8))) (.c (.q 10 [] (.mv (.t 1))) (.c (.e (some 11) [] (.call false 80 [(.t 9), (.t 10)])) (.c (.q 12 [] (.not (.t 11))) .nil)))))) t28_1) t28_9)
def t28_10 := b28_10
theorem u28_10 : vcK P t28_10 k e w = vcK P b28_10 k e w := rfl
abbrev b28_0 : X := (.seq (.reg [0, 1] (.c (.q 4 [] (.mv (.c (.slice none 0 0)))) (.c (.q 5 [] (.mv (.c (.bool false)))) .nil))) t28_10)
def x_sBalanceOf := b28_0
theorem u28_0 : vcK P x_sBalanceOf k e w = vcK P b28_0 k e w := rfl
def r_sBalanceOf : List XO := [(.mv (.t 4)), (.mv (.t 5))]
theorem c_sBalanceOf : convF Tryz.prog [56, 58, 59, 60, 61, 62, 72, 73, 77, 97, 98, 109, 110, 111, 112, 115, 128, 136] Tryz.f28 [([0, 1], []), ([0, 1, 12], []), ([4, 5], []), ([1, 6], []), ([1, 6, 7], []), ([7], [1, 6]), ([1, 6, 7, 19], []), ([1, 6, 7], []), ([1, 6, 7], []), ([4, 5], [])] = some (x_sBalanceOf, r_sBalanceOf) := by kernel_rfl
def us_sBalanceOf :=  (aI (aI (aI @u28_0 @u28_1) (aI @u28_2 (aI @u28_3 @u28_4))) (aI (aI @u28_5 (aI @u28_6 @u28_7)) (aI @u28_8 (aI @u28_9 @u28_10))))
abbrev b24_1 : X := (.cond (.t 8) (.seq (.reg [2, 3] (.c (.q 2 [] (.mv (.c (.int .i64 0)))) (.c (.q 3 [] (.mv (.c (.bool false)))) .nil))) .ret) .skip)
def t24_1 := b24_1
theorem u24_1 : vcK P t24_1 k e w = vcK P b24_1 k e w := rfl
abbrev b24_2 : X := (.cond (.t 13) .skip (.exit 0))
def t24_2 := b24_2
theorem u24_2 : vcK P t24_2 k e w = vcK P b24_2 k e w := rfl
abbrev b24_3 : X := (.cond (.t 23) (.reg [0, 4, 5] (.c (.q 24 [] (.mv (.t 4))) (.c (.q 25 [] (.bin .add (.t 24) (.c (.int .i64 1)))) (.c (.q 4 [] (.mv (.t 25))) .nil)))) .skip)
def t24_3 := b24_3
theorem u24_3 : vcK P t24_3 k e w = vcK P b24_3 k e w := rfl
abbrev b24_4 : X := (.reg [0, 4, 5] (.c (.q 14 [] (.mv (.t 5))) (.c (.q 15 [] (.bin .add (.t 14) (.c (.int .i64 1)))) (.c (.q 5 [] (.mv (.t 15))) .nil))))
def t24_4 := b24_4
theorem u24_4 : vcK P t24_4 k e w = vcK P b24_4 k e w := rfl
abbrev b24_5 : X := (.seq (.blk 1 (.seq (.reg [0, 4, 5, 23] (.c (.q 16 [] (.mv (.t 0))) (.c (.q 17 [] (.mv (.t 5))) (.c (.e (some 18) [] (.call false 79 [(.t 16), (.t 17)])) (.c (.q 19 [] (.mv (.t 0))) (.c (.q 20 [] (.mv (.t 5))) (.c (.q 21 [] (.bin .sub (.t 20) (.c (.int .i64 1)))) (.c (.e (some 22) [] (.call false 79 [(.t 19), (.t 21)])) (.c (.q 23 [] (.bin .neq (.t 18) (.t 22))) .nil))))))))) t24_3)) t24_4)
def t24_5 := b24_5
theorem u24_5 : vcK P t24_5 k e w = vcK P b24_5 k e w := rfl
abbrev b24_6 : X := (.seq (.seq (.reg [0, 4, 5, 13] (.c (.q 9 [] (.mv (.t 5))) (.c (.q 10 [] (.mv (.t 0))) (.c (.q 11 [] (.len (.t 10))) (.c (.q 12 [] (.bin .quo (.t 11) (.c (.int .i64 2)))) (.c (.q 13 [] (.bin .lss (.t 9) (.t 12))) .nil)))))) t24_2) t24_5)
def t24_6 := b24_6
theorem u24_6 : vcK P t24_6 k e w = vcK P b24_6 k e w := rfl
abbrev b24_7 : X := (.blk 0 (.loop [4, 5] [0] t24_6))
def t24_7 := b24_7
theorem u24_7 : vcK P t24_7 k e w = vcK P b24_7 k e w := rfl
abbrev b24_8 : X := (.seq (.reg [2, 3] (.c (.q 26 [] (.mv (.t 4))) (.c (.q 2 [] (.mv (.t 26))) (.c (.q 3 [] (.mv (.c (.bool true)))) .nil)))) .ret)
def t24_8 := b24_8
theorem u24_8 : vcK P t24_8 k e w = vcK P b24_8 k e w := rfl
abbrev b24_9 : X := (.seq (.seq (.reg [0, 4, 5] (.c (.q 5 [] (.mv (.c (.int .i64 1)))) .nil)) t24_7) t24_8)
def t24_9 := b24_9
theorem u24_9 : vcK P t24_9 k e w = vcK P b24_9 k e w := rfl
abbrev b24_10 : X := (.seq (.reg [0, 4] (.c (.q 4 [] (.mv (.c (.int .i64 0)))) .nil)) t24_9)
def t24_10 := b24_10
theorem u24_10 : vcK P t24_10 k e w = vcK P b24_10 k e w := rfl
abbrev b24_11 : X := (.seq (.seq (.reg [0, 8] (.c (.q 6 [] (.mv (.t 0))) (.c (.e (some 7) [] (.call false 78 [(.c (.int .i64 4)), (.t 6)])) (.c (.q 8 [] (.not (.t 7))) .nil)))) t24_1) t24_10)
def t24_11 := b24_11
theorem u24_11 : vcK P t24_11 k e w = vcK P b24_11 k e w := rfl
abbrev b24_0 : X := (.seq (.reg [0] (.c (.q 2 [] (.mv (.c (.int .i64 0)))) (.c (.q 3 [] (.mv (.c (.bool false)))) .nil))) t24_11)
def x_iSwitchesIn := b24_0
theorem u24_0 : vcK P x_iSwitchesIn k e w = vcK P b24_0 k e w := rfl
def r_iSwitchesIn : List XO := [(.mv (.t 2)), (.mv (.t 3))]
theorem c_iSwitchesIn : convF Tryz.prog [56, 58, 59, 60, 61, 62, 72, 73, 77, 97, 98, 109, 110, 111, 112, 115, 128, 136] Tryz.f24 [([0], []), ([0, 8], []), ([2, 3], []), ([0, 4], []), ([0, 4, 5], []), ([4, 5], [0]), ([0, 4, 5, 13], []), ([0, 4, 5, 23], []), ([0, 4, 5], []), ([0, 4, 5], []), ([2, 3], [])] = some (x_iSwitchesIn, r_iSwitchesIn) := by kernel_rfl
def us_iSwitchesIn :=  (aI (aI (aI @u24_0 (aI @u24_1 @u24_2)) (aI @u24_3 (aI @u24_4 @u24_5))) (aI (aI @u24_6 (aI @u24_7 @u24_8)) (aI @u24_9 (aI @u24_10 @u24_11))))
abbrev b25_1 : X := (.cond (.t 8) (.seq (.reg [2, 3] (.c (.q 2 [] (.mv (.c (.int .i64 0)))) (.c (.q 3 [] (.mv (.c (.bool false)))) .nil))) .ret) .skip)
def t25_1 := b25_1
theorem u25_1 : vcK P t25_1 k e w = vcK P b25_1 k e w := rfl
abbrev b25_2 : X := (.cond (.t 12) .skip (.exit 0))
def t25_2 := b25_2
theorem u25_2 : vcK P t25_2 k e w = vcK P b25_2 k e w := rfl
abbrev b25_3 : X := (.cond (.t 22) (.reg [0, 4, 5] (.c (.q 23 [] (.mv (.t 4))) (.c (.q 24 [] (.bin .add (.t 23) (.c (.int .i64 1)))) (.c (.q 4 [] (.mv (.t 24))) .nil)))) .skip)
def t25_3 := b25_3
theorem u25_3 : vcK P t25_3 k e w = vcK P b25_3 k e w := rfl
abbrev b25_4 : X := (.reg [0, 4, 5] (.c (.q 13 [] (.mv (.t 5))) (.c (.q 14 [] (.bin .add (.t 13) (.c (.int .i64 2)))) (.c (.q 5 [] (.mv (.t 14))) .nil))))
def t25_4 := b25_4
theorem u25_4 : vcK P t25_4 k e w = vcK P b25_4 k e w := rfl
abbrev b25_5 : X := (.seq (.blk 1 (.seq (.drw [0, 4, 5, 22] (.c (.q 15 [] (.mv (.t 0))) (.c (.q 16 [] (.mv (.t 5))) (.c (.q 17 [] (.idx (.t 15) (.t 16))) (.c (.q 18 [] (.mv (.t 0))) (.c (.q 19 [] (.mv (.t 5))) (.c (.q 20 [] (.bin .sub (.t 19) (.c (.int .i64 2)))) (.c (.q 21 [] (.idx (.t 18) (.t 20))) (.c (.q 22 [] (.bin .neq (.t 17) (.t 21))) .nil))))))))) t25_3)) t25_4)
def t25_5 := b25_5
theorem u25_5 : vcK P t25_5 k e w = vcK P b25_5 k e w := rfl
abbrev b25_6 : X := (.seq (.seq (.reg [0, 4, 5, 12] (.c (.q 9 [] (.mv (.t 5))) (.c (.q 10 [] (.mv (.t 0))) (.c (.q 11 [] (.len (.t 10))) (.c (.q 12 [] (.bin .lss (.t 9) (.t 11))) .nil))))) t25_2) t25_5)
def t25_6 := b25_6
theorem u25_6 : vcK P t25_6 k e w = vcK P b25_6 k e w := rfl
abbrev b25_7 : X := (.blk 0 (.loop [4, 5] [0] t25_6))
def t25_7 := b25_7
theorem u25_7 : vcK P t25_7 k e w = vcK P b25_7 k e w := rfl
abbrev b25_8 : X := (.seq (.reg [2, 3] (.c (.q 25 [] (.mv (.t 4))) (.c (.q 2 [] (.mv (.t 25))) (.c (.q 3 [] (.mv (.c (.bool true)))) .nil)))) .ret)
def t25_8 := b25_8
theorem u25_8 : vcK P t25_8 k e w = vcK P b25_8 k e w := rfl
abbrev b25_9 : X := (.seq (.seq (.reg [0, 4, 5] (.c (.q 5 [] (.mv (.c (.int .i64 2)))) .nil)) t25_7) t25_8)
def t25_9 := b25_9
theorem u25_9 : vcK P t25_9 k e w = vcK P b25_9 k e w := rfl
abbrev b25_10 : X := (.seq (.reg [0, 4] (.c (.q 4 [] (.mv (.c (.int .i64 0)))) .nil)) t25_9)
def t25_10 := b25_10
theorem u25_10 : vcK P t25_10 k e w = vcK P b25_10 k e w := rfl
abbrev b25_11 : X := (.seq (.seq (.reg [0, 8] (.c (.q 6 [] (.mv (.t 0))) (.c (.e (some 7) [] (.call false 80 [(.c (.int .i64 4)), (.t 6)])) (.c (.q 8 [] (.not (.t 7))) .nil)))) t25_1) t25_10)
def t25_11 := b25_11
theorem u25_11 : vcK P t25_11 k e w = vcK P b25_11 k e w := rfl
abbrev b25_0 : X := (.seq (.reg [0] (.c (.q 2 [] (.mv (.c (.int .i64 0)))) (.c (.q 3 [] (.mv (.c (.bool false)))) .nil))) t25_11)
def x_sSwitchesIn := b25_0
theorem u25_0 : vcK P x_sSwitchesIn k e w = vcK P b25_0 k e w := rfl
def r_sSwitchesIn : List XO := [(.mv (.t 2)), (.mv (.t 3))]
theorem c_sSwitchesIn : convF Tryz.prog [56, 58, 59, 60, 61, 62, 72, 73, 77, 97, 98, 109, 110, 111, 112, 115, 128, 136] Tryz.f25 [([0], []), ([0, 8], []), ([2, 3], []), ([0, 4], []), ([0, 4, 5], []), ([4, 5], [0]), ([0, 4, 5, 12], []), ([0, 4, 5, 22], []), ([0, 4, 5], []), ([0, 4, 5], []), ([2, 3], [])] = some (x_sSwitchesIn, r_sSwitchesIn) := by kernel_rfl
def us_sSwitchesIn :=  (aI (aI (aI @u25_0 (aI @u25_1 @u25_2)) (aI @u25_3 (aI @u25_4 @u25_5))) (aI (aI @u25_6 (aI @u25_7 @u25_8)) (aI @u25_9 (aI @u25_10 @u25_11))))
abbrev b21_1 : X := (.cond (.t 15) (.seq (.reg [4, 5] (.c (.q 4 [] (.mv (.s []))) (.c (.q 5 [] (.mv (.c (.bool false)))) .nil))) .ret) .skip)
def t21_1 := b21_1
theorem u21_1 : vcK P t21_1 k e w = vcK P b21_1 k e w := rfl
abbrev b21_2 : X := (.drw [0, 1, 6, 17, 18] (.c (.q 21 [] (.mv (.t 6))) (.c (.q 22 [] (.mv (.t 1))) (.c (.q 23 [] (.mv (.t 1))) (.c (.q 24 [] (.bin .add (.t 23) (.c (.int .i64 1)))) (.c (.q 25 [] (.sub (.s [65, 66, 67, 68]) (some (.t 22)) (some (.t 24)))) (.c (.q 26 [] (.mv (.t 0))) (.c (.q 27 [] (.mv (.t 7))) (.c (.q 28 [] (.mv (.t 7))) (.c (.q 29 [] (.bin .add (.t 28) (.c (.int .i64 1)))) (.c (.q 30 [] (.sub (.t 26) (some (.t 27)) (some (.t 29)))) (.c (.q 31 [] (.bin .add (.t 25) (.t 30))) (.c (.q 32 [] (.bin .add (.t 21) (.t 31))) (.c (.q 6 [] (.mv (.t 32))) .nil))))))))))))))
def t21_2 := b21_2
theorem u21_2 : vcK P t21_2 k e w = vcK P b21_2 k e w := rfl
abbrev b21_3 : X := (.reg [0, 1, 6, 17, 18] (.c (.q 33 [] (.bin .add (.t 18) (.c (.int .i64 1)))) (.c (.q 18 [] (.mv (.t 33))) .nil)))
def t21_3 := b21_3
theorem u21_3 : vcK P t21_3 k e w = vcK P b21_3 k e w := rfl
abbrev b21_4 : X := (.seq (.blk 1 (.seq (.reg [0, 1, 6, 7, 17, 18] (.c (.q 20 [] (.mv (.t 18))) (.c (.q 7 [] (.mv (.t 20))) .nil))) t21_2)) t21_3)
def t21_4 := b21_4
theorem u21_4 : vcK P t21_4 k e w = vcK P b21_4 k e w := rfl
abbrev b21_5 : X := (.seq (.cond (.t 19) .skip (.exit 0)) t21_4)
def t21_5 := b21_5
theorem u21_5 : vcK P t21_5 k e w = vcK P b21_5 k e w := rfl
abbrev b21_6 : X := (.seq (.reg [0, 1, 6, 17, 18, 19] (.c (.q 19 [] (.bin .lss (.t 18) (.t 17))) .nil)) t21_5)
def t21_6 := b21_6
theorem u21_6 : vcK P t21_6 k e w = vcK P b21_6 k e w := rfl
abbrev b21_7 : X := (.blk 0 (.loop [6, 18] [0, 1, 17] t21_6))
def t21_7 := b21_7
theorem u21_7 : vcK P t21_7 k e w = vcK P b21_7 k e w := rfl
abbrev b21_8 : X := (.seq (.reg [4, 5] (.c (.q 34 [] (.mv (.t 6))) (.c (.q 4 [] (.mv (.t 34))) (.c (.q 5 [] (.mv (.c (.bool true)))) .nil)))) .ret)
def t21_8 := b21_8
theorem u21_8 : vcK P t21_8 k e w = vcK P b21_8 k e w := rfl
abbrev b21_9 : X := (.seq (.seq (.reg [0, 1, 6, 17, 18] (.c (.q 16 [] (.mv (.t 0))) (.c (.q 17 [] (.len (.t 16))) (.c (.q 18 [] (.mv (.c (.int .i64 0)))) .nil)))) t21_7) t21_8)
def t21_9 := b21_9
theorem u21_9 : vcK P t21_9 k e w = vcK P b21_9 k e w := rfl
abbrev b21_10 : X := (.seq (.reg [0, 1, 6] (.c (.q 6 [] (.mv (.s []))) .nil)) t21_9)
def t21_10 := b21_10
theorem u21_10 : vcK P t21_10 k e w = vcK P b21_10 k e w := rfl
abbrev b21_11 : X := (.seq (.seq (.reg [0, 1, 15] (.c (.q 8 [] (.mv (.t 0))) (.c (.e (some 9) [] (.call false 74 [(.t 8)])) (.c (.q 10 [] (.not (.t 9))) (.c (.q 11 [] (.mv (.t 10))) (.c (.q 12 [(11, false)] (.mv (.t 1))) (.c (.e (some 13) [(11, false)] (.call false 75 [(.t 12), (.c (.int .i64 0)), (.c (.int .i64 3))])) (.c (.q 14 [(11, false)] (.not (.t 13))) (.c (.q 15 [] (.pick (.t 11) (.c (.bool true)) (.t 14))) .nil))))))))) t21_1) t21_10)
def t21_11 := b21_11
theorem u21_11 : vcK P t21_11 k e w = vcK P b21_11 k e w := rfl
abbrev b21_0 : X := (.seq (.reg [0, 1] (.c (.q 4 [] (.mv (.s []))) (.c (.q 5 [] (.mv (.c (.bool false)))) .nil))) t21_11)
def x_iSpliceOf := b21_0
theorem u21_0 : vcK P x_iSpliceOf k e w = vcK P b21_0 k e w := rfl
def r_iSpliceOf : List XO := [(.mv (.t 4)), (.mv (.t 5))]
theorem c_iSpliceOf : convF Tryz.prog [56, 58, 59, 60, 61, 62, 72, 73, 77, 97, 98, 109, 110, 111, 112, 115, 128, 136] Tryz.f21 [([0, 1], []), ([0, 1, 15], []), ([4, 5], []), ([0, 1, 6], []), ([0, 1, 6, 17, 18], []), ([6, 18], [0, 1, 17]), ([0, 1, 6, 17, 18, 19], []), ([0, 1, 6, 7, 17, 18], []), ([0, 1, 6, 17, 18], []), ([0, 1, 6, 17, 18], []), ([4, 5], [])] = some (x_iSpliceOf, r_iSpliceOf) := by kernel_rfl
def us_iSpliceOf :=  (aI (aI (aI @u21_0 (aI @u21_1 @u21_2)) (aI @u21_3 (aI @u21_4 @u21_5))) (aI (aI @u21_6 (aI @u21_7 @u21_8)) (aI @u21_9 (aI @u21_10 @u21_11))))
abbrev b22_1 : X := (.cond (.t 15) (.seq (.reg [4, 5] (.c (.q 4 [] (.mv (.s []))) (.c (.q 5 [] (.mv (.c (.bool false)))) .nil))) .ret) .skip)
def t22_1 := b22_1
theorem u22_1 : vcK P t22_1 k e w = vcK P b22_1 k e w := rfl
abbrev b22_2 : X := (.cond (.t 19) .skip (.exit 0))
def t22_2 := b22_2
theorem u22_2 : vcK P t22_2 k e w = vcK P b22_2 k e w := rfl
abbrev b22_3 : X := (.reg [0, 1, 6, 7] (.c (.q 20 [] (.mv (.t 7))) (.c (.q 21 [] (.bin .add (.t 20) (.c (.int .i64 1)))) (.c (.q 7 [] (.mv (.t 21))) .nil))))
def t22_3 := b22_3
theorem u22_3 : vcK P t22_3 k e w = vcK P b22_3 k e w := rfl
abbrev b22_4 : X := (.seq (.blk 1 (.drw [0, 1, 6, 7] (.c (.q 22 [] (.mv (.t 6))) (.c (.q 23 [] (.mv (.t 1))) (.c (.q 24 [] (.mv (.t 1))) (.c (.q 25 [] (.bin .add (.t 24) (.c (.int .i64 1)))) (.c (.q 26 [] (.sub (.s [65, 66, 67, 68]) (some (.t 23)) (some (.t 25)))) (.c (.q 27 [] (.mv (.t 0))) (.c (.q 28 [] (.mv (.t 7))) (.c (.q 29 [] (.mv (.t 7))) (.c (.q 30 [] (.bin .add (.t 29) (.c (.int .i64 1)))) (.c (.q 31 [] (.sub (.t 27) (some (.t 28)) (some (.t 30)))) (.c (.q 32 [] (.bin .add (.t 26) (.t 31))) (.c (.q 33 [] (.bin .add (.t 22) (.t 32))) (.c (.q 6 [] (.mv (.t 33))) .nil))))))))))))))) t22_3)
def t22_4 := b22_4
theorem u22_4 : vcK P t22_4 k e w = vcK P b22_4 k e w := rfl
abbrev b22_5 : X := (.seq (.seq (.reg [0, 1, 6, 7, 19] (.c (.q 16 [] (.mv (.t 7))) (.c (.q 17 [] (.mv (.t 0))) (.c (.q 18 [] (.len (.t 17))) (.c (.q 19 [] (.bin .lss (.t 16) (.t 18))) .nil))))) t22_2) t22_4)
def t22_5 := b22_5
theorem u22_5 : vcK P t22_5 k e w = vcK P b22_5 k e w := rfl
abbrev b22_6 : X := (.blk 0 (.loop [6, 7] [0, 1] t22_5))
def t22_6 := b22_6
theorem u22_6 : vcK P t22_6 k e w = vcK P b22_6 k e w := rfl
abbrev b22_7 : X := (.seq (.reg [4, 5] (.c (.q 34 [] (.mv (.t 6))) (.c (.q 4 [] (.mv (.t 34))) (.c (.q 5 [] (.mv (.c (.bool true)))) .nil)))) .ret)
def t22_7 := b22_7
theorem u22_7 : vcK P t22_7 k e w = vcK P b22_7 k e w := rfl
abbrev b22_8 : X := (.seq (.seq (.reg [0, 1, 6, 7] (.c (.q 7 [] (.mv (.c (.int .i64 0)))) .nil)) t22_6) t22_7)
def t22_8 := b22_8
theorem u22_8 : vcK P t22_8 k e w = vcK P b22_8 k e w := rfl
abbrev b22_9 : X := (.seq (.reg [0, 1, 6] (.c (.q 6 [] (.mv (.s []))) .nil)) t22_8)
def t22_9 := b22_9
theorem u22_9 : vcK P t22_9 k e w = vcK P b22_9 k e w := rfl
abbrev b22_10 : X := (.seq (.seq (.reg [0, 1, 15] (.c (.q 8 [] (.mv (.t 0))) (.c (.e (some 9) [] (.call false 76 [(.t 8)])) (.c (.q 10 [] (.not (.t 9))) (.c (.q 11 [] (.mv (.t 10))) (.c (.q 12 [(11, false)] (.mv (.t 1))) (.c (.e (some 13) [(11, false)] (.call false 67 [(.t 12), (.c (.int .i64 0)), (.c (.int .i64 3))])) (.c (.q 14 [(11, false)] (.not (.t 13))) (.c (.q 15 [] (.pick (.t 11) (.c (.bool true)) (.t 14))) .nil))))))))) t22_1) t22_9)
def t22_10 := b22_10
theorem u22_10 : vcK P t22_10 k e w = vcK P b22_10 k e w := rfl
abbrev b22_0 : X := (.seq (.reg [0, 1] (.c (.q 4 [] (.mv (.s []))) (.c (.q 5 [] (.mv (.c (.bool false)))) .nil))) t22_10)
def x_sSpliceOf := b22_0
theorem u22_0 : vcK P x_sSpliceOf k e w = vcK P b22_0 k e w := rfl
def r_sSpliceOf : List XO := [(.mv (.t 4)), (.mv (.t 5))]
theorem c_sSpliceOf : convF Tryz.prog [56, 58, 59, 60, 61, 62, 72, 73, 77, 97, 98, 109, 110, 111, 112, 115, 128, 136] Tryz.f22 [([0, 1], []), ([0, 1, 15], []), ([4, 5], []), ([0, 1, 6], []), ([0, 1, 6, 7], []), ([6, 7], [0, 1]), ([0, 1, 6, 7, 19], []), ([0, 1, 6, 7], []), ([0, 1, 6, 7], []), ([4, 5], [])] = some (x_sSpliceOf, r_sSpliceOf) := by kernel_rfl
def us_sSpliceOf :=  (aI (aI (aI @u22_0 @u22_1) (aI @u22_2 (aI @u22_3 @u22_4))) (aI (aI @u22_5 (aI @u22_6 @u22_7)) (aI @u22_8 (aI @u22_9 @u22_10))))
abbrev b31_1 : X := (.cond (.t 12) (.seq (.reg [6, 7] (.c (.q 6 [] (.mv (.c (.slice none 0 0)))) (.c (.q 7 [] (.mv (.c (.bool false)))) .nil))) .ret) .skip)
def t31_1 := b31_1
theorem u31_1 : vcK P t31_1 k e w = vcK P b31_1 k e w := rfl
abbrev b31_2 : X := (.seq (.reg [6, 7] (.c (.q 13 [] (.mv (.t 0))) (.c (.q 14 [] (.lda 2 (.t 4))) (.c (.q 15 [] (.mv (.t 2))) (.c (.e (some 16) [] (.call false 84 [(.t 13), (.t 14), (.t 15)])) (.c (.q 6 [] (.mv (.t 16))) (.c (.q 7 [] (.mv (.c (.bool true)))) .nil))))))) .ret)
def t31_2 := b31_2
theorem u31_2 : vcK P t31_2 k e w = vcK P b31_2 k e w := rfl
abbrev b31_3 : X := (.seq (.seq (.reg [0, 2, 4, 12] (.c (.q 8 [] (.mv (.t 0))) (.c (.q 9 [] (.lda 2 (.t 4))) (.c (.q 10 [] (.mv (.t 2))) (.c (.e (some 11) [] (.call false 83 [(.t 8), (.t 9), (.t 10)])) (.c (.q 12 [] (.not (.t 11))) .nil)))))) t31_1) t31_2)
def t31_3 := b31_3
theorem u31_3 : vcK P t31_3 k e w = vcK P b31_3 k e w := rfl
abbrev b31_0 : X := (.seq (.reg [0, 2, 4] (.c (.e (some 4) [] (.box 27 (.t 1))) (.c (.q 6 [] (.mv (.c (.slice none 0 0)))) (.c (.q 7 [] (.mv (.c (.bool false)))) .nil)))) t31_3)
def x_iSpliceHeads := b31_0
theorem u31_0 : vcK P x_iSpliceHeads k e w = vcK P b31_0 k e w := rfl
def r_iSpliceHeads : List XO := [(.mv (.t 6)), (.mv (.t 7))]
theorem c_iSpliceHeads : convF Tryz.prog [56, 58, 59, 60, 61, 62, 72, 73, 77, 97, 98, 109, 110, 111, 112, 115, 128, 136] Tryz.f31 [([0, 2, 4], []), ([0, 2, 4, 12], []), ([6, 7], []), ([6, 7], [])] = some (x_iSpliceHeads, r_iSpliceHeads) := by kernel_rfl
def us_iSpliceHeads :=  (aI (aI @u31_0 @u31_1) (aI @u31_2 @u31_3))
end
/-- How many of the first k leads are of the method a. -/
def balN (t : List UInt8) (k a : Nat) : Nat := ((List.range k).filter fun i => decide (mA t i = a)).length
theorem balN_succ (t : List UInt8) (k a : Nat) : balN t (k + 1) a = balN t k a + if mA t k = a then 1 else 0 := by
  rw [balN, List.range_succ, List.filter_append, List.length_append]
  congr 1
  by_cases e : mA t k = a
  · rw [if_pos e, List.filter_cons_of_pos (by simpa using e)]; rfl
  · rw [if_neg e, List.filter_cons_of_neg (by simpa using e)]; rfl
theorem balN_le (t : List UInt8) (k a : Nat) : balN t k a ≤ k := by
  refine Nat.le_trans (List.length_filter_le _ _) ?_
  rw [List.length_range]; exact Nat.le_refl _
def balL (n : Nat) (t : List UInt8) (k : Nat) : List Int := (List.range n).map fun a => (balN t k a : Int)
theorem balL_len (n : Nat) (t : List UInt8) (k : Nat) : (balL n t k).length = n := by simp [balL]
theorem balL_zero (n : Nat) (t : List UInt8) : balL n t 0 = List.replicate n 0 := by
  refine ext_getD (d := 0) (by simp [balL]) fun i hi => ?_
  rw [balL_len] at hi
  simp [balL, balN, List.getD_eq_getElem?_getD, hi, List.getElem?_replicate]
theorem balL_get (n : Nat) (t : List UInt8) (k a : Nat) (ha : a < n) : (balL n t k).getD a 0 = (balN t k a : Int) := by
  rw [balL, List.getD_eq_getElem?_getD, List.getElem?_map, List.getElem?_range ha]; rfl
theorem balL_succ (n : Nat) (t : List UInt8) (k : Nat) (hr : mA t k < n) : balL n t (k + 1) = (balL n t k).set (mA t k) (balN t k (mA t k) + 1 : Int) := by
  refine ext_getD (d := 0) (by simp [balL]) fun i hi => ?_
  rw [balL_len] at hi
  rw [balL_get _ _ _ _ hi, balN_succ]
  by_cases e : mA t k = i
  · subst e
    rw [if_pos rfl, List.getD_eq_getElem?_getD, List.getElem?_set_self (by rw [balL_len]; exact hr)]; rfl
  · rw [if_neg e, List.getD_eq_getElem?_getD, List.getElem?_set_ne e, ← List.getD_eq_getElem?_getD, balL_get _ _ _ _ hi]; rfl
theorem set_sum : ∀ (L : List Int) (i : Nat) (x : Int), i < L.length → (L.set i (L.getD i 0 + x)).sum = L.sum + x
  | [], i, x, h => by simp at h
  | a :: L, 0, x, h => by simp only [List.set_cons_zero, List.getD_cons_zero, List.sum_cons]; omega
  | a :: L, i + 1, x, h => by
    simp only [List.set_cons_succ, List.getD_cons_succ, List.sum_cons]
    rw [set_sum L i x (by simpa using h)]; omega
theorem bal_sum (n : Nat) (t : List UInt8) : ∀ k, (∀ i < k, mA t i < n) → (balL n t k).sum = (k : Int)
  | 0, _ => by rw [balL_zero]; simp
  | k + 1, h => by
    have := set_sum (balL n t k) (mA t k) 1 (by rw [balL_len]; exact h k (by omega))
    rw [balL_get _ _ _ _ (h k (by omega)), bal_sum n t k fun i hi => h i (by omega)] at this
    rw [balL_succ n t k (h k (by omega)), this]; omega
def balV (n : Nat) (t : List UInt8) : List Int := if IsSpl n t then balL n t (t.length / 2) else []
theorem iBalanceOf_ok (v : Value) (ms : List MS) (css : List (List (List UInt8))) (t : List UInt8) (hn : ms.length ≤ 1048576) (ht : t.length ≤ 1048576) (w : World) (h : SqM w v ms css) : Fn 27 [v, S t] w (fun r w' => ∃ y, r = .tuple ⟨[y, .bool (decide (IsSpl ms.length t))]⟩ ∧ Own fI 1 3 w.heap.size w' y (balV ms.length t)) := by
  (refine callsV_of mix Tryz.func27 c_iBalanceOf ?_; simp only [↓vsd, vsn, gW, qd, qv, ev, pick, argE, zipE, ne_eq, eq_self, forall_const, implies_true, if_true, if_false, reduceIte, reduceCtorEq, Nat.reduceEqDiff, Nat.reduceAdd, Nat.reduceLT, ↓us_iBalanceOf, r_iBalanceOf])
  refine m_call (iGoodSplice_ok v ms css t hn ht _ h) ?_
  rintro _ w1 hx1 rfl
  have hq1 := (h.ext hx1).1.facts
  by_cases hS : IsSpl ms.length t
  · have h4 := hS.1
    have htl := hS.2.1
    simp only [↓vsd, vsn, gW, qd, qv, ev, pick, argE, zipE, ne_eq, eq_self, forall_const, implies_true, if_true, if_false, reduceIte, reduceCtorEq, Nat.reduceEqDiff, Nat.reduceAdd, Nat.reduceLT, ↓us_iBalanceOf, r_iBalanceOf, hS, hq1]
    refine m_msl (B := w.heap.size) (0 : Int) fI_len rfl (by omega) (by decide) hx1.size ?_
    rintro z w2 hz2 hzb hx2
    have hx12 := hx1.trans hx2
    have hd2 : ((t.length : Nat) : Int).tdiv 2 = ((t.length / 2 : Nat) : Int) := rfl
    simp only [↓vsd, vsn, gW, qd, qv, ev, pick, argE, zipE, ne_eq, eq_self, forall_const, implies_true, if_true, if_false, reduceIte, reduceCtorEq, Nat.reduceEqDiff, Nat.reduceAdd, Nat.reduceLT, ↓us_iBalanceOf, r_iBalanceOf, hd2]
    refine ⟨⟨by decide, inR_i64 (by omega)⟩, ?_⟩
    refine m_upto (t.length / 2) (fun k vs w' => vs = [.int .i64 k] ∧ Own fI 1 3 w.heap.size w' z (balL ms.length t k) ∧ Ext w w') ⟨rfl, by rw [balL_zero]; exact hz2, hx12⟩ ?_
    rintro k vs w3 hk ⟨rfl, hz3, hx3⟩
    by_cases hlt : k < t.length / 2
    · have hltI : (k : Int) < ((t.length / 2 : Nat) : Int) := by omega
      have hltJ : ¬ ((t.length / 2 : Nat) : Int) ≤ k := by omega
      have hmA := (mA_lt hS hlt).2.1
      have hsu := balL_succ ms.length t k hmA
      have hol := balL_len ms.length t k
      have hog := balL_get ms.length t k _ hmA
      have hle := balN_le t k (mA t k)
      simp only [↓vsd, vsn, gW, qd, qv, ev, pick, argE, zipE, ne_eq, eq_self, forall_const, implies_true, if_true, if_false, reduceIte, reduceCtorEq, Nat.reduceEqDiff, Nat.reduceAdd, Nat.reduceLT, ↓us_iBalanceOf, r_iBalanceOf, hltI, hltJ]
      refine m_call (imethodAt_ok ms.length t k hS hlt _) ?_
      rintro _ w4 hx4 rfl
      have hx4 : Ext w3 w4 := by first | exact hx4 | exact ud hx4 | exact ud (ud hx4)
      have hz4 := hz3.ext hx4
      have a4 := hz4.sq.at1 0 (i := mA t k) (by omega)
      rw [hog] at a4
      simp only [↓vsd, vsn, gW, qd, qv, ev, pick, argE, zipE, ne_eq, eq_self, forall_const, implies_true, if_true, if_false, reduceIte, reduceCtorEq, Nat.reduceEqDiff, Nat.reduceAdd, Nat.reduceLT, ↓us_iBalanceOf, r_iBalanceOf, hz4.sq.facts, a4]
      refine ⟨by omega, inR_i64 (by omega), by omega, m_set1 (mA t k) ((balN t k (mA t k) : Int) + 1) hz4 rfl (by omega) rfl fI_one ?_⟩
      rintro w5 hz5 hg5 _
      have hx5 := hz4.grown (hx3.trans hx4) (Nat.le_refl _) hg5
      simp only [↓vsd, vsn, gW, qd, qv, ev, pick, argE, zipE, ne_eq, eq_self, forall_const, implies_true, if_true, if_false, reduceIte, reduceCtorEq, Nat.reduceEqDiff, Nat.reduceAdd, Nat.reduceLT, ↓us_iBalanceOf, r_iBalanceOf]
      exact ⟨inR_i64 (by omega), UpTo.next hlt ⟨rfl, by rw [hsu]; exact hz5, hx5⟩⟩
    · obtain rfl : k = t.length / 2 := by omega
      have hltI : ¬ ((t.length / 2 : Nat) : Int) < ((t.length / 2 : Nat) : Int) := by omega
      simp only [↓vsd, vsn, gW, qd, qv, ev, pick, argE, zipE, ne_eq, eq_self, forall_const, implies_true, if_true, if_false, reduceIte, reduceCtorEq, Nat.reduceEqDiff, Nat.reduceAdd, Nat.reduceLT, ↓us_iBalanceOf, r_iBalanceOf, hltI]
      exact ⟨hx3, z, rfl, by rw [balV, if_pos hS]; exact hz3⟩
  · simp only [↓vsd, vsn, gW, qd, qv, ev, pick, argE, zipE, ne_eq, eq_self, forall_const, implies_true, if_true, if_false, reduceIte, reduceCtorEq, Nat.reduceEqDiff, Nat.reduceAdd, Nat.reduceLT, ↓us_iBalanceOf, r_iBalanceOf, hS]
    exact ⟨hx1, _, rfl, by rw [balV, if_neg hS]; exact Own.nil fI_len⟩
theorem sBalanceOf_ok (v : Value) (ms : List MS) (css : List (List (List UInt8))) (t : List UInt8) (hn : ms.length ≤ 1048576) (ht : t.length ≤ 1048576) (w : World) (h : SqM w v ms css) : Fn 28 [v, S t] w (fun r w' => ∃ y, r = .tuple ⟨[y, .bool (decide (IsSpl ms.length t))]⟩ ∧ Own fI 1 3 w.heap.size w' y (balV ms.length t)) := by
  (refine callsV_of mix Tryz.func28 c_sBalanceOf ?_; simp only [↓vsd, vsn, gW, qd, qv, ev, pick, argE, zipE, ne_eq, eq_self, forall_const, implies_true, if_true, if_false, reduceIte, reduceCtorEq, Nat.reduceEqDiff, Nat.reduceAdd, Nat.reduceLT, ↓us_sBalanceOf, r_sBalanceOf])
  simp only [↓vsd, vsn, gW, qd, qv, ev, pick, argE, zipE, ne_eq, eq_self, forall_const, implies_true, if_true, if_false, reduceIte, reduceCtorEq, Nat.reduceEqDiff, Nat.reduceAdd, Nat.reduceLT, ↓us_sBalanceOf, r_sBalanceOf, h.1.facts]
  refine m_call (sl14Good_ok ms.length t hn ht _) ?_
  rintro _ w1 hx1 rfl
  have hq1 := (h.ext hx1).1.facts
  by_cases hS : IsSpl ms.length t
  · have h4 := hS.1
    have htl := hS.2.1
    simp only [↓vsd, vsn, gW, qd, qv, ev, pick, argE, zipE, ne_eq, eq_self, forall_const, implies_true, if_true, if_false, reduceIte, reduceCtorEq, Nat.reduceEqDiff, Nat.reduceAdd, Nat.reduceLT, ↓us_sBalanceOf, r_sBalanceOf, hS, hq1]
    refine m_msl (B := w.heap.size) (0 : Int) fI_len rfl (by omega) (by decide) hx1.size ?_
    rintro z w2 hz2 hzb hx2
    have hx12 := hx1.trans hx2
    simp only [↓vsd, vsn, gW, qd, qv, ev, pick, argE, zipE, ne_eq, eq_self, forall_const, implies_true, if_true, if_false, reduceIte, reduceCtorEq, Nat.reduceEqDiff, Nat.reduceAdd, Nat.reduceLT, ↓us_sBalanceOf, r_sBalanceOf]
    refine m_upto (t.length / 2) (fun k vs w' => vs = [.int .i64 (2 * k : Nat)] ∧ Own fI 1 3 w.heap.size w' z (balL ms.length t k) ∧ Ext w w') ⟨rfl, by rw [balL_zero]; exact hz2, hx12⟩ ?_
    rintro k vs w3 hk ⟨rfl, hz3, hx3⟩
    by_cases hlt : k < t.length / 2
    · have hltI : ((2 * k : Nat) : Int) < t.length := by omega
      obtain ⟨_, hmA, _, hmI⟩ := mA_lt hS hlt
      have hsu := balL_succ ms.length t k hmA
      have hol := balL_len ms.length t k
      have hog := balL_get ms.length t k _ hmA
      have hle := balN_le t k (mA t k)
      have hx8 : (t.getD (2 * k) 0).toNat < 256 := (t.getD (2 * k) 0).toNat_lt
      have e2 : ((2 * k : Nat) : Int) + 2 = ((2 * (k + 1) : Nat) : Int) := by omega
      have a4 := hz3.sq.at1 0 (i := mA t k) (by omega)
      rw [hog] at a4
      simp only [↓vsd, vsn, gW, qd, qv, ev, pick, argE, zipE, ne_eq, eq_self, forall_const, implies_true, if_true, if_false, reduceIte, reduceCtorEq, Nat.reduceEqDiff, Nat.reduceAdd, Nat.reduceLT, ↓us_sBalanceOf, r_sBalanceOf, hltI, hmI, hz3.sq.facts, a4]
      refine ⟨by omega, inR_i64 (by omega), by omega, inR_i64 (by omega), by omega, m_set1 (mA t k) ((balN t k (mA t k) : Int) + 1) hz3 rfl (by omega) rfl fI_one ?_⟩
      rintro w5 hz5 hg5 _
      have hx5 := hz3.grown hx3 (Nat.le_refl _) hg5
      simp only [↓vsd, vsn, gW, qd, qv, ev, pick, argE, zipE, ne_eq, eq_self, forall_const, implies_true, if_true, if_false, reduceIte, reduceCtorEq, Nat.reduceEqDiff, Nat.reduceAdd, Nat.reduceLT, ↓us_sBalanceOf, r_sBalanceOf, e2]
      exact ⟨inR_i64 (by omega), UpTo.next hlt ⟨rfl, by rw [hsu]; exact hz5, hx5⟩⟩
    · obtain rfl : k = t.length / 2 := by omega
      have hltI : ¬ ((2 * (t.length / 2) : Nat) : Int) < t.length := by omega
      simp only [↓vsd, vsn, gW, qd, qv, ev, pick, argE, zipE, ne_eq, eq_self, forall_const, implies_true, if_true, if_false, reduceIte, reduceCtorEq, Nat.reduceEqDiff, Nat.reduceAdd, Nat.reduceLT, ↓us_sBalanceOf, r_sBalanceOf, hltI]
      exact ⟨hx3, z, rfl, by rw [balV, if_pos hS]; exact hz3⟩
  · simp only [↓vsd, vsn, gW, qd, qv, ev, pick, argE, zipE, ne_eq, eq_self, forall_const, implies_true, if_true, if_false, reduceIte, reduceCtorEq, Nat.reduceEqDiff, Nat.reduceAdd, Nat.reduceLT, ↓us_sBalanceOf, r_sBalanceOf, hS]
    exact ⟨hx1, _, rfl, by rw [balV, if_neg hS]; exact Own.nil fI_len⟩
/-- How many of the leads 1 .. k are of another method than the one before. -/
def swN (t : List UInt8) : Nat → Nat
  | 0 => 0
  | k + 1 => swN t k + if mA t (k + 1) = mA t k then 0 else 1
theorem swN_le (t : List UInt8) : ∀ k, swN t k ≤ k
  | 0 => Nat.le_refl _
  | k + 1 => by have := swN_le t k; rw [swN]; split <;> omega
def swV (t : List UInt8) : Value := .tuple ⟨[.int .i64 (if IsSpl 4 t then swN t (t.length / 2 - 1) else 0 : Nat), .bool (decide (IsSpl 4 t))]⟩
theorem iSwitchesIn_ok (t : List UInt8) (ht : t.length ≤ 1048576) (w : World) : Fn 24 [S t] w (fun r _ => r = swV t) := by
  (refine callsV_of mix Tryz.func24 c_iSwitchesIn ?_; simp only [↓vsd, vsn, gW, qd, qv, ev, pick, argE, zipE, ne_eq, eq_self, forall_const, implies_true, if_true, if_false, reduceIte, reduceCtorEq, Nat.reduceEqDiff, Nat.reduceAdd, Nat.reduceLT, ↓us_iSwitchesIn, r_iSwitchesIn])
  refine m_call (iisSplice_ok 4 t (by decide) ht _) ?_
  rintro _ w1 hx1 rfl
  by_cases hS : IsSpl 4 t
  · have htl := hS.2.1
    have hd2 : ((t.length : Nat) : Int).tdiv 2 = ((t.length / 2 : Nat) : Int) := rfl
    simp only [↓vsd, vsn, gW, qd, qv, ev, pick, argE, zipE, ne_eq, eq_self, forall_const, implies_true, if_true, if_false, reduceIte, reduceCtorEq, Nat.reduceEqDiff, Nat.reduceAdd, Nat.reduceLT, ↓us_iSwitchesIn, r_iSwitchesIn, hS]
    refine m_upto (t.length / 2 - 1) (fun k vs w' => vs = [.int .i64 (swN t k : Nat), .int .i64 (k + 1 : Nat)] ∧ Ext w w') ⟨rfl, hx1⟩ ?_
    rintro k vs w3 hk ⟨rfl, hx3⟩
    have hle := swN_le t k
    by_cases hlt : k < t.length / 2 - 1
    · have hltI : ((k + 1 : Nat) : Int) < ((t.length / 2 : Nat) : Int) := by omega
      have e1 : ((k + 1 : Nat) : Int) - 1 = (k : Int) := by omega
      simp only [↓vsd, vsn, gW, qd, qv, ev, pick, argE, zipE, ne_eq, eq_self, forall_const, implies_true, if_true, if_false, reduceIte, reduceCtorEq, Nat.reduceEqDiff, Nat.reduceAdd, Nat.reduceLT, ↓us_iSwitchesIn, r_iSwitchesIn, hd2, hltI]
      refine ⟨⟨by decide, inR_i64 (by omega)⟩, ?_⟩
      refine m_call (imethodAt_ok 4 t (k + 1) hS (by omega) _) ?_
      rintro _ w4 hx4 rfl
      have hx4 : Ext w3 w4 := by first | exact hx4 | exact ud hx4 | exact ud (ud hx4)
      simp only [↓vsd, vsn, gW, qd, qv, ev, pick, argE, zipE, ne_eq, eq_self, forall_const, implies_true, if_true, if_false, reduceIte, reduceCtorEq, Nat.reduceEqDiff, Nat.reduceAdd, Nat.reduceLT, ↓us_iSwitchesIn, r_iSwitchesIn, e1]
      refine ⟨inR_i64 (by omega), ?_⟩
      refine m_call (imethodAt_ok 4 t k hS (by omega) _) ?_
      rintro _ w5 hx5 rfl
      have hx5 : Ext w4 w5 := by first | exact hx5 | exact ud hx5 | exact ud (ud hx5)
      have hx35 := (hx3.trans hx4).trans hx5
      have e2 : ((k + 1 : Nat) : Int) + 1 = ((k + 1 + 1 : Nat) : Int) := by omega
      by_cases he : mA t (k + 1) = mA t k
      · have heI : ((mA t (k + 1) : Nat) : Int) = (mA t k : Nat) := by omega
        simp only [↓vsd, vsn, gW, qd, qv, ev, pick, argE, zipE, ne_eq, eq_self, forall_const, implies_true, if_true, if_false, reduceIte, reduceCtorEq, Nat.reduceEqDiff, Nat.reduceAdd, Nat.reduceLT, ↓us_iSwitchesIn, r_iSwitchesIn, heI, e2]
        exact ⟨inR_i64 (by omega), UpTo.next hlt ⟨by rw [swN, if_pos he]; rfl, hx35⟩⟩
      · have heI : ¬ ((mA t (k + 1) : Nat) : Int) = (mA t k : Nat) := by omega
        have e3 : ((swN t k : Nat) : Int) + 1 = ((swN t k + 1 : Nat) : Int) := by omega
        simp only [↓vsd, vsn, gW, qd, qv, ev, pick, argE, zipE, ne_eq, eq_self, forall_const, implies_true, if_true, if_false, reduceIte, reduceCtorEq, Nat.reduceEqDiff, Nat.reduceAdd, Nat.reduceLT, ↓us_iSwitchesIn, r_iSwitchesIn, heI, e2, e3]
        exact ⟨inR_i64 (by omega), inR_i64 (by omega), UpTo.next hlt ⟨by rw [swN, if_neg he], hx35⟩⟩
    · obtain rfl : k = t.length / 2 - 1 := by omega
      have hltI : ¬ ((t.length / 2 - 1 + 1 : Nat) : Int) < ((t.length / 2 : Nat) : Int) := by omega
      simp only [↓vsd, vsn, gW, qd, qv, ev, pick, argE, zipE, ne_eq, eq_self, forall_const, implies_true, if_true, if_false, reduceIte, reduceCtorEq, Nat.reduceEqDiff, Nat.reduceAdd, Nat.reduceLT, ↓us_iSwitchesIn, r_iSwitchesIn, hd2, hltI]
      exact ⟨⟨by decide, inR_i64 (by omega)⟩, hx3, by rw [swV, if_pos hS, decide_eq_true hS]⟩
  · simp only [↓vsd, vsn, gW, qd, qv, ev, pick, argE, zipE, ne_eq, eq_self, forall_const, implies_true, if_true, if_false, reduceIte, reduceCtorEq, Nat.reduceEqDiff, Nat.reduceAdd, Nat.reduceLT, ↓us_iSwitchesIn, r_iSwitchesIn, hS]
    exact ⟨hx1, by rw [swV, if_neg hS, decide_eq_false hS]; rfl⟩
theorem sSwitchesIn_ok (t : List UInt8) (ht : t.length ≤ 1048576) (w : World) : Fn 25 [S t] w (fun r _ => r = swV t) := by
  (refine callsV_of mix Tryz.func25 c_sSwitchesIn ?_; simp only [↓vsd, vsn, gW, qd, qv, ev, pick, argE, zipE, ne_eq, eq_self, forall_const, implies_true, if_true, if_false, reduceIte, reduceCtorEq, Nat.reduceEqDiff, Nat.reduceAdd, Nat.reduceLT, ↓us_sSwitchesIn, r_sSwitchesIn])
  refine m_call (sl14Good_ok 4 t (by decide) ht _) ?_
  rintro _ w1 hx1 rfl
  by_cases hS : IsSpl 4 t
  · have htl := hS.2.1
    simp only [↓vsd, vsn, gW, qd, qv, ev, pick, argE, zipE, ne_eq, eq_self, forall_const, implies_true, if_true, if_false, reduceIte, reduceCtorEq, Nat.reduceEqDiff, Nat.reduceAdd, Nat.reduceLT, ↓us_sSwitchesIn, r_sSwitchesIn, hS]
    refine m_upto (t.length / 2 - 1) (fun k vs w' => vs = [.int .i64 (swN t k : Nat), .int .i64 (2 * (k + 1) : Nat)] ∧ Ext w w') ⟨rfl, hx1⟩ ?_
    rintro k vs w3 hk ⟨rfl, hx3⟩
    have hle := swN_le t k
    by_cases hlt : k < t.length / 2 - 1
    · have hltI : ((2 * (k + 1) : Nat) : Int) < t.length := by omega
      have e1 : ((2 * (k + 1) : Nat) : Int) - 2 = ((2 * k : Nat) : Int) := by omega
      have e2 : ((2 * (k + 1) : Nat) : Int) + 2 = ((2 * (k + 1 + 1) : Nat) : Int) := by omega
      obtain ⟨g1, _, _, _⟩ := mA_lt hS (i := k) (by omega)
      obtain ⟨g2, _, _, _⟩ := mA_lt hS (i := k + 1) (by omega)
      by_cases he : mA t (k + 1) = mA t k
      · have heI : (((t.getD (2 * (k + 1)) 0).toNat : Nat) : Int) = ((t.getD (2 * k) 0).toNat : Nat) := by unfold mA at he; omega
        simp only [↓vsd, vsn, gW, qd, qv, ev, pick, argE, zipE, ne_eq, eq_self, forall_const, implies_true, if_true, if_false, reduceIte, reduceCtorEq, Nat.reduceEqDiff, Nat.reduceAdd, Nat.reduceLT, ↓us_sSwitchesIn, r_sSwitchesIn, hltI, e1, heI, e2]
        exact ⟨by omega, inR_i64 (by omega), by omega, inR_i64 (by omega), UpTo.next hlt ⟨by rw [swN, if_pos he]; rfl, by first | exact hx3 | exact dr hx3⟩⟩
      · have heI : ¬ (((t.getD (2 * (k + 1)) 0).toNat : Nat) : Int) = ((t.getD (2 * k) 0).toNat : Nat) := by unfold mA at he; omega
        have e3 : ((swN t k : Nat) : Int) + 1 = ((swN t k + 1 : Nat) : Int) := by omega
        simp only [↓vsd, vsn, gW, qd, qv, ev, pick, argE, zipE, ne_eq, eq_self, forall_const, implies_true, if_true, if_false, reduceIte, reduceCtorEq, Nat.reduceEqDiff, Nat.reduceAdd, Nat.reduceLT, ↓us_sSwitchesIn, r_sSwitchesIn, hltI, e1, heI, e2, e3]
        exact ⟨by omega, inR_i64 (by omega), by omega, inR_i64 (by omega), inR_i64 (by omega), UpTo.next hlt ⟨by rw [swN, if_neg he], by first | exact hx3 | exact dr hx3⟩⟩
    · obtain rfl : k = t.length / 2 - 1 := by omega
      have hltI : ¬ ((2 * (t.length / 2 - 1 + 1) : Nat) : Int) < t.length := by omega
      simp only [↓vsd, vsn, gW, qd, qv, ev, pick, argE, zipE, ne_eq, eq_self, forall_const, implies_true, if_true, if_false, reduceIte, reduceCtorEq, Nat.reduceEqDiff, Nat.reduceAdd, Nat.reduceLT, ↓us_sSwitchesIn, r_sSwitchesIn, hltI]
      exact ⟨hx3, by rw [swV, if_pos hS, decide_eq_true hS]⟩
  · simp only [↓vsd, vsn, gW, qd, qv, ev, pick, argE, zipE, ne_eq, eq_self, forall_const, implies_true, if_true, if_false, reduceIte, reduceCtorEq, Nat.reduceEqDiff, Nat.reduceAdd, Nat.reduceLT, ↓us_sSwitchesIn, r_sSwitchesIn, hS]
    exact ⟨hx1, by rw [swV, if_neg hS, decide_eq_false hS]; rfl⟩
/-- A touch as a splice of the method a alone. -/
def sofL (a : Nat) (t : List UInt8) : List UInt8 := t.flatMap fun c => [UInt8.ofNat (65 + a), c]
theorem sofL_len (a : Nat) (t : List UInt8) : (sofL a t).length = 2 * t.length := by
  induction t with
  | nil => rfl
  | cons c t ih => rw [sofL, List.flatMap_cons, List.length_append]; rw [sofL] at ih; rw [ih]; simp; omega
theorem sofL_succ (a : Nat) (t : List UInt8) (k : Nat) (h : k < t.length) : sofL a (t.take (k + 1)) = sofL a (t.take k) ++ ([UInt8.ofNat (65 + a)] ++ [t.getD k 0]) := by
  rw [List.take_add_one, List.getElem?_eq_getElem h, sofL, List.flatMap_append, List.getD_eq_getElem?_getD, List.getElem?_eq_getElem h]
  rfl
theorem abcd (a : Nat) (h : a < 4) : (([65, 66, 67, 68] : List UInt8).take (a + 1)).drop a = [UInt8.ofNat (65 + a)] := by
  have : ∀ a < 4, (([65, 66, 67, 68] : List UInt8).take (a + 1)).drop a = [UInt8.ofNat (65 + a)] := by decide
  exact this a h
def SofOk (t : List UInt8) (a : Int) : Prop := IsTch t ∧ 0 ≤ a ∧ a ≤ 3
instance (t : List UInt8) (a : Int) : Decidable (SofOk t a) := by unfold SofOk; infer_instance
def sofV (t : List UInt8) (a : Int) : Value := .tuple ⟨[S (if SofOk t a then sofL a.toNat t else []), .bool (decide (SofOk t a))]⟩
theorem iSpliceOf_ok (t : List UInt8) (a : Int) (ht : t.length ≤ 1048576) (w : World) : Fn 21 [S t, .int .i64 a] w (fun r _ => r = sofV t a) := by
  (refine callsV_of mix Tryz.func21 c_iSpliceOf ?_; simp only [↓vsd, vsn, gW, qd, qv, ev, pick, argE, zipE, ne_eq, eq_self, forall_const, implies_true, if_true, if_false, reduceIte, reduceCtorEq, Nat.reduceEqDiff, Nat.reduceAdd, Nat.reduceLT, ↓us_iSpliceOf, r_iSpliceOf])
  refine m_call (iGoodTouch_okt t (by omega) _) ?_
  rintro _ w1 hx1 rfl
  by_cases hT : IsTch t
  · have h60 := hT.1
    simp only [↓vsd, vsn, gW, qd, qv, ev, pick, argE, zipE, ne_eq, eq_self, forall_const, implies_true, if_true, if_false, reduceIte, reduceCtorEq, Nat.reduceEqDiff, Nat.reduceAdd, Nat.reduceLT, ↓us_iSpliceOf, r_iSpliceOf, hT]
    refine m_call (iwithin_ok a 0 3 _) ?_
    rintro _ w2 hx2 rfl
    have hx2 : Ext w1 w2 := by first | exact hx2 | exact ud hx2 | exact ud (ud hx2)
    have hx12 := hx1.trans hx2
    by_cases ha : 0 ≤ a ∧ a ≤ 3
    · obtain ⟨a, rfl⟩ : ∃ n : Nat, a = n := ⟨a.toNat, by omega⟩
      have hok : SofOk t a := ⟨hT, ha⟩
      have had : (decide ((0 : Int) ≤ (a : Int)) && decide ((a : Int) ≤ 3)) = true := by rw [decide_eq_true ha.1, decide_eq_true ha.2]; rfl
      have ea := abcd a (by omega)
      simp only [↓vsd, vsn, gW, qd, qv, ev, pick, argE, zipE, ne_eq, eq_self, forall_const, implies_true, if_true, if_false, reduceIte, reduceCtorEq, Nat.reduceEqDiff, Nat.reduceAdd, Nat.reduceLT, ↓us_iSpliceOf, r_iSpliceOf, had]
      refine m_upto t.length (fun k vs w' => vs = [S (sofL a (t.take k)), .int .i64 k] ∧ Ext w w') ⟨rfl, hx12⟩ ?_
      rintro k vs w3 hk ⟨rfl, hx3⟩
      have hll := sofL_len a (t.take k)
      rw [List.length_take, Nat.min_eq_left hk] at hll
      by_cases hlt : k < t.length
      · have hltI : (k : Int) < t.length := by omega
        have hltJ : ¬ (t.length : Int) ≤ k := by omega
        have hsu := sofL_succ a t k hlt
        have es := sub_one t k hlt
        have h4 : (a : Int) + 1 ≤ 4 := by omega
        simp only [↓vsd, vsn, gW, qd, qv, ev, pick, argE, zipE, ne_eq, eq_self, forall_const, implies_true, if_true, if_false, reduceIte, reduceCtorEq, Nat.reduceEqDiff, Nat.reduceAdd, Nat.reduceLT, ↓us_iSpliceOf, r_iSpliceOf, hltI, hltJ, ea, es]
        refine ⟨inR_i64 (by omega), by omega, inR_i64 (by omega), by omega, by simp, by simp only [List.length_append, List.length_cons, List.length_nil, hll]; omega, inR_i64 (by omega), UpTo.next hlt ⟨?_, by first | exact hx3 | exact dr hx3⟩⟩
        rw [hsu]; rfl
      · obtain rfl : k = t.length := by omega
        have hltI : ¬ ((t.length : Nat) : Int) < t.length := by omega
        simp only [↓vsd, vsn, gW, qd, qv, ev, pick, argE, zipE, ne_eq, eq_self, forall_const, implies_true, if_true, if_false, reduceIte, reduceCtorEq, Nat.reduceEqDiff, Nat.reduceAdd, Nat.reduceLT, ↓us_iSpliceOf, r_iSpliceOf, hltI]
        refine ⟨hx3, ?_⟩
        rw [sofV, if_pos hok, decide_eq_true hok, Int.toNat_natCast, List.take_length]
    · have had : (decide ((0 : Int) ≤ a) && decide (a ≤ 3)) = false := by
        rw [Bool.and_eq_false_iff, decide_eq_false_iff_not, decide_eq_false_iff_not]; omega
      simp only [↓vsd, vsn, gW, qd, qv, ev, pick, argE, zipE, ne_eq, eq_self, forall_const, implies_true, if_true, if_false, reduceIte, reduceCtorEq, Nat.reduceEqDiff, Nat.reduceAdd, Nat.reduceLT, ↓us_iSpliceOf, r_iSpliceOf, had]
      exact ⟨hx12, by rw [sofV, if_neg (fun hh => ha hh.2), decide_eq_false (fun hh => ha hh.2)]⟩
  · simp only [↓vsd, vsn, gW, qd, qv, ev, pick, argE, zipE, ne_eq, eq_self, forall_const, implies_true, if_true, if_false, reduceIte, reduceCtorEq, Nat.reduceEqDiff, Nat.reduceAdd, Nat.reduceLT, ↓us_iSpliceOf, r_iSpliceOf, hT]
    exact ⟨hx1, by rw [sofV, if_neg (fun hh => hT hh.1), decide_eq_false (fun hh => hT hh.1)]⟩
theorem sSpliceOf_ok (t : List UInt8) (a : Int) (ht : t.length ≤ 1048576) (w : World) : Fn 22 [S t, .int .i64 a] w (fun r _ => r = sofV t a) := by
  (refine callsV_of mix Tryz.func22 c_sSpliceOf ?_; simp only [↓vsd, vsn, gW, qd, qv, ev, pick, argE, zipE, ne_eq, eq_self, forall_const, implies_true, if_true, if_false, reduceIte, reduceCtorEq, Nat.reduceEqDiff, Nat.reduceAdd, Nat.reduceLT, ↓us_sSpliceOf, r_sSpliceOf])
  refine m_call (sl9Good_okt t (by omega) _) ?_
  rintro _ w1 hx1 rfl
  by_cases hT : IsTch t
  · have h60 := hT.1
    simp only [↓vsd, vsn, gW, qd, qv, ev, pick, argE, zipE, ne_eq, eq_self, forall_const, implies_true, if_true, if_false, reduceIte, reduceCtorEq, Nat.reduceEqDiff, Nat.reduceAdd, Nat.reduceLT, ↓us_sSpliceOf, r_sSpliceOf, hT]
    refine m_call (sl1In_ok a 0 3 _) ?_
    rintro _ w2 hx2 rfl
    have hx2 : Ext w1 w2 := by first | exact hx2 | exact ud hx2 | exact ud (ud hx2)
    have hx12 := hx1.trans hx2
    by_cases ha : 0 ≤ a ∧ a ≤ 3
    · obtain ⟨a, rfl⟩ : ∃ n : Nat, a = n := ⟨a.toNat, by omega⟩
      have hok : SofOk t a := ⟨hT, ha⟩
      have had : (decide ((0 : Int) ≤ (a : Int)) && decide ((a : Int) ≤ 3)) = true := by rw [decide_eq_true ha.1, decide_eq_true ha.2]; rfl
      have ea := abcd a (by omega)
      simp only [↓vsd, vsn, gW, qd, qv, ev, pick, argE, zipE, ne_eq, eq_self, forall_const, implies_true, if_true, if_false, reduceIte, reduceCtorEq, Nat.reduceEqDiff, Nat.reduceAdd, Nat.reduceLT, ↓us_sSpliceOf, r_sSpliceOf, had]
      refine m_upto t.length (fun k vs w' => vs = [S (sofL a (t.take k)), .int .i64 k] ∧ Ext w w') ⟨rfl, hx12⟩ ?_
      rintro k vs w3 hk ⟨rfl, hx3⟩
      have hll := sofL_len a (t.take k)
      rw [List.length_take, Nat.min_eq_left hk] at hll
      by_cases hlt : k < t.length
      · have hltI : (k : Int) < t.length := by omega
        have hltJ : ¬ (t.length : Int) ≤ k := by omega
        have hsu := sofL_succ a t k hlt
        have es := sub_one t k hlt
        have h4 : (a : Int) + 1 ≤ 4 := by omega
        simp only [↓vsd, vsn, gW, qd, qv, ev, pick, argE, zipE, ne_eq, eq_self, forall_const, implies_true, if_true, if_false, reduceIte, reduceCtorEq, Nat.reduceEqDiff, Nat.reduceAdd, Nat.reduceLT, ↓us_sSpliceOf, r_sSpliceOf, hltI, hltJ, ea, es]
        refine ⟨inR_i64 (by omega), by omega, inR_i64 (by omega), by omega, by simp, by simp only [List.length_append, List.length_cons, List.length_nil, hll]; omega, inR_i64 (by omega), UpTo.next hlt ⟨?_, by first | exact hx3 | exact dr hx3⟩⟩
        rw [hsu]; rfl
      · obtain rfl : k = t.length := by omega
        have hltI : ¬ ((t.length : Nat) : Int) < t.length := by omega
        simp only [↓vsd, vsn, gW, qd, qv, ev, pick, argE, zipE, ne_eq, eq_self, forall_const, implies_true, if_true, if_false, reduceIte, reduceCtorEq, Nat.reduceEqDiff, Nat.reduceAdd, Nat.reduceLT, ↓us_sSpliceOf, r_sSpliceOf, hltI]
        refine ⟨hx3, ?_⟩
        rw [sofV, if_pos hok, decide_eq_true hok, Int.toNat_natCast, List.take_length]
    · have had : (decide ((0 : Int) ≤ a) && decide (a ≤ 3)) = false := by
        rw [Bool.and_eq_false_iff, decide_eq_false_iff_not, decide_eq_false_iff_not]; omega
      simp only [↓vsd, vsn, gW, qd, qv, ev, pick, argE, zipE, ne_eq, eq_self, forall_const, implies_true, if_true, if_false, reduceIte, reduceCtorEq, Nat.reduceEqDiff, Nat.reduceAdd, Nat.reduceLT, ↓us_sSpliceOf, r_sSpliceOf, had]
      exact ⟨hx12, by rw [sofV, if_neg (fun hh => ha hh.2), decide_eq_false (fun hh => ha hh.2)]⟩
  · simp only [↓vsd, vsn, gW, qd, qv, ev, pick, argE, zipE, ne_eq, eq_self, forall_const, implies_true, if_true, if_false, reduceIte, reduceCtorEq, Nat.reduceEqDiff, Nat.reduceAdd, Nat.reduceLT, ↓us_sSpliceOf, r_sSpliceOf, hT]
    exact ⟨hx1, by rw [sofV, if_neg (fun hh => hT hh.1), decide_eq_false (fun hh => hT hh.1)]⟩
def shV (ms : List MS) (css : List (List (List UInt8))) (b s t : List UInt8) : List (List UInt8) := if SplOk ms css b s t then hdsS (ms.getD 0 MS.nil).st.toNat css b s t (t.length / 2 + 1) else []
theorem iSpliceHeads_ok (v : Value) (ms : List MS) (css : List (List (List UInt8))) (b s t : List UInt8) (hsm : MSmall ms css) (hb : b.length ≤ 1048576 ∧ s.length ≤ 1048576) (ht : t.length ≤ 1048576) (w : World) (h : SqM w v ms css) : Fn 31 [v, kV b s, S t] w (fun r w' => ∃ x, r = .tuple ⟨[x, .bool (decide (SplOk ms css b s t))]⟩ ∧ Own fS 1 9 w.heap.size w' x (shV ms css b s t)) := by
  (refine callsV_of mix Tryz.func31 c_iSpliceHeads ?_; simp only [↓vsd, vsn, gW, qd, qv, ev, pick, argE, zipE, ne_eq, eq_self, forall_const, implies_true, if_true, if_false, reduceIte, reduceCtorEq, Nat.reduceEqDiff, Nat.reduceAdd, Nat.reduceLT, ↓us_iSpliceHeads, r_iSpliceHeads])
  refine m_al ?_
  rintro b1 w1 hb1 hblk1 hx1 hs1
  have h1 : Blk w1 b1 (fQ b s) 27 := hblk1
  simp only [↓vsd, vsn, gW, qd, qv, ev, pick, argE, zipE, ne_eq, eq_self, forall_const, implies_true, if_true, if_false, reduceIte, reduceCtorEq, Nat.reduceEqDiff, Nat.reduceAdd, Nat.reduceLT, ↓us_iSpliceHeads, r_iSpliceHeads, h1.facts, fQg]
  refine m_call (igoodSplice_ok v ms css b s t hsm hb ht _ (by first | exact h.ext hx1 | exact h.ext (dr hx1))) ?_
  rintro _ w2 hx2 rfl
  have hx2 : Ext w1 w2 := by first | exact hx2 | exact ud hx2 | exact ud (ud hx2)
  have hx12 := hx1.trans hx2
  have h12 := h1.ext hx2
  by_cases hS : SplOk ms css b s t
  · obtain ⟨n, hn, h8⟩ := spl_st hS
    simp only [↓vsd, vsn, gW, qd, qv, ev, pick, argE, zipE, ne_eq, eq_self, forall_const, implies_true, if_true, if_false, reduceIte, reduceCtorEq, Nat.reduceEqDiff, Nat.reduceAdd, Nat.reduceLT, ↓us_iSpliceHeads, r_iSpliceHeads, hS, h12.facts, fQg]
    refine m_call (ispliceHeads_ok v ms css b s t n hS hn h8 _ (by first | exact h.ext hx12 | exact h.ext (dr hx12))) ?_
    rintro y w3 hx3 hoy
    have hx3 : Ext w2 w3 := by first | exact hx3 | exact ud hx3 | exact ud (ud hx3)
    simp only [↓vsd, vsn, gW, qd, qv, ev, pick, argE, zipE, ne_eq, eq_self, forall_const, implies_true, if_true, if_false, reduceIte, reduceCtorEq, Nat.reduceEqDiff, Nat.reduceAdd, Nat.reduceLT, ↓us_iSpliceHeads, r_iSpliceHeads]
    exact ⟨hx12.trans hx3, y, rfl, by rw [shV, if_pos hS, hn]; exact hoy.mono hx12.size⟩
  · simp only [↓vsd, vsn, gW, qd, qv, ev, pick, argE, zipE, ne_eq, eq_self, forall_const, implies_true, if_true, if_false, reduceIte, reduceCtorEq, Nat.reduceEqDiff, Nat.reduceAdd, Nat.reduceLT, ↓us_iSpliceHeads, r_iSpliceHeads, hS]
    exact ⟨hx12, _, rfl, by rw [shV, if_neg hS]; exact Own.nil fS_len⟩
end Go.Proofs.YthopbkemkfjebaaGreat
