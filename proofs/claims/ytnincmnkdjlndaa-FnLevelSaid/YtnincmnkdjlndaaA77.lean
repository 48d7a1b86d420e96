/-
  How often each row of a stage occurs, which rows are missing, and the changes from row to row, of both sides.
  Conditions: none.
-/
import Derived.Test.YtnincmnkdjlndaaA54
import Derived.Test.YtnincmnkdjlndaaA70
import Derived.Test.YtnincmnkdjlndaaPh
set_option linter.unusedSimpArgs false
set_option linter.unusedVariables false
set_option linter.defProp false
namespace Go.Proofs.Ytnincmnkdjlndaa
open Go Go.RowKit
section
variable (P : Program) (k : KT) (e : Env) (w : World)
abbrev b280_1 : X := (.cond (.t 17) .skip (.exit 2))
def t280_1 := b280_1
theorem u280_1 : vcK P t280_1 k e w = vcK P b280_1 k e w := rfl
abbrev b280_2 : X := (.cond (.t 26) (.reg [0, 3, 4, 5, 6, 8, 9] (.c (.q 27 [] (.mv (.t 5))) (.c (.q 28 [] (.bin .add (.t 27) (.c (.int .i64 1)))) (.c (.q 5 [] (.mv (.t 28))) .nil)))) .skip)
def t280_2 := b280_2
theorem u280_2 : vcK P t280_2 k e w = vcK P b280_2 k e w := rfl
abbrev b280_3 : X := (.reg [0, 3, 4, 5, 6, 8, 9] (.c (.q 18 [] (.mv (.t 6))) (.c (.q 19 [] (.bin .add (.t 18) (.c (.int .i64 1)))) (.c (.q 6 [] (.mv (.t 19))) .nil))))
def t280_3 := b280_3
theorem u280_3 : vcK P t280_3 k e w = vcK P b280_3 k e w := rfl
abbrev b280_4 : X := (.seq (.blk 3 (.seq (.drw [0, 3, 4, 5, 6, 8, 9, 26] (.c (.q 20 [] (.mv (.t 0))) (.c (.q 21 [] (.mv (.t 6))) (.c (.q 22 [] (.idx (.t 20) (.t 21))) (.c (.q 23 [] (.mv (.t 0))) (.c (.q 24 [] (.mv (.t 4))) (.c (.q 25 [] (.idx (.t 23) (.t 24))) (.c (.q 26 [] (.bin .lss (.t 22) (.t 25))) .nil)))))))) t280_2)) t280_3)
def t280_4 := b280_4
theorem u280_4 : vcK P t280_4 k e w = vcK P b280_4 k e w := rfl
abbrev b280_5 : X := (.seq (.seq (.reg [0, 3, 4, 5, 6, 8, 9, 17] (.c (.q 14 [] (.mv (.t 6))) (.c (.q 15 [] (.mv (.t 0))) (.c (.q 16 [] (.len (.t 15))) (.c (.q 17 [] (.bin .lss (.t 14) (.t 16))) .nil))))) t280_1) t280_4)
def t280_5 := b280_5
theorem u280_5 : vcK P t280_5 k e w = vcK P b280_5 k e w := rfl
abbrev b280_6 : X := (.blk 2 (.loop [5, 6] [0, 3, 4, 8, 9] t280_5))
def t280_6 := b280_6
theorem u280_6 : vcK P t280_6 k e w = vcK P b280_6 k e w := rfl
abbrev b280_7 : X := (.reg [0, 3, 8, 9] (.c (.q 29 [] (.mv (.t 3))) (.c (.q 30 [] (.mv (.t 5))) (.c (.q 31 [] (.mv (.t 0))) (.c (.q 32 [] (.len (.t 31))) (.c (.q 33 [] (.bin .sub (.t 32) (.c (.int .i64 1)))) (.c (.q 34 [] (.mv (.t 4))) (.c (.q 35 [] (.bin .sub (.t 33) (.t 34))) (.c (.e (some 36) [] (.call false 279 [(.t 35)])) (.c (.q 37 [] (.bin .mul (.t 30) (.t 36))) (.c (.q 38 [] (.bin .add (.t 29) (.t 37))) (.c (.q 3 [] (.mv (.t 38))) .nil))))))))))))
def t280_7 := b280_7
theorem u280_7 : vcK P t280_7 k e w = vcK P b280_7 k e w := rfl
abbrev b280_8 : X := (.seq (.seq (.reg [0, 3, 4, 5, 6, 8, 9] (.c (.q 12 [] (.mv (.t 4))) (.c (.q 13 [] (.bin .add (.t 12) (.c (.int .i64 1)))) (.c (.q 6 [] (.mv (.t 13))) .nil)))) t280_6) t280_7)
def t280_8 := b280_8
theorem u280_8 : vcK P t280_8 k e w = vcK P b280_8 k e w := rfl
abbrev b280_9 : X := (.seq (.reg [0, 3, 4, 5, 8, 9] (.c (.q 5 [] (.mv (.c (.int .i64 0)))) .nil)) t280_8)
def t280_9 := b280_9
theorem u280_9 : vcK P t280_9 k e w = vcK P b280_9 k e w := rfl
abbrev b280_10 : X := (.reg [0, 3, 8, 9] (.c (.q 39 [] (.bin .add (.t 9) (.c (.int .i64 1)))) (.c (.q 9 [] (.mv (.t 39))) .nil)))
def t280_10 := b280_10
theorem u280_10 : vcK P t280_10 k e w = vcK P b280_10 k e w := rfl
abbrev b280_11 : X := (.seq (.blk 1 (.seq (.reg [0, 3, 4, 8, 9] (.c (.q 11 [] (.mv (.t 9))) (.c (.q 4 [] (.mv (.t 11))) .nil))) t280_9)) t280_10)
def t280_11 := b280_11
theorem u280_11 : vcK P t280_11 k e w = vcK P b280_11 k e w := rfl
abbrev b280_12 : X := (.seq (.cond (.t 10) .skip (.exit 0)) t280_11)
def t280_12 := b280_12
theorem u280_12 : vcK P t280_12 k e w = vcK P b280_12 k e w := rfl
abbrev b280_13 : X := (.seq (.reg [0, 3, 8, 9, 10] (.c (.q 10 [] (.bin .lss (.t 9) (.t 8))) .nil)) t280_12)
def t280_13 := b280_13
theorem u280_13 : vcK P t280_13 k e w = vcK P b280_13 k e w := rfl
abbrev b280_14 : X := (.blk 0 (.loop [3, 9] [0, 8] t280_13))
def t280_14 := b280_14
theorem u280_14 : vcK P t280_14 k e w = vcK P b280_14 k e w := rfl
abbrev b280_15 : X := (.seq (.reg [2] (.c (.q 40 [] (.mv (.t 3))) (.c (.q 2 [] (.mv (.t 40))) .nil))) .ret)
def t280_15 := b280_15
theorem u280_15 : vcK P t280_15 k e w = vcK P b280_15 k e w := rfl
abbrev b280_16 : X := (.seq (.seq (.reg [0, 3, 8, 9] (.c (.q 7 [] (.mv (.t 0))) (.c (.q 8 [] (.len (.t 7))) (.c (.q 9 [] (.mv (.c (.int .i64 0)))) .nil)))) t280_14) t280_15)
def t280_16 := b280_16
theorem u280_16 : vcK P t280_16 k e w = vcK P b280_16 k e w := rfl
abbrev b280_17 : X := (.seq (.reg [0, 3] (.c (.q 3 [] (.mv (.c (.int .i64 0)))) .nil)) t280_16)
def t280_17 := b280_17
theorem u280_17 : vcK P t280_17 k e w = vcK P b280_17 k e w := rfl
abbrev b280_0 : X := (.seq (.reg [0] (.c (.q 2 [] (.mv (.c (.int .i64 0)))) .nil)) t280_17)
def x_irankOf := b280_0
theorem u280_0 : vcK P x_irankOf k e w = vcK P b280_0 k e w := rfl
def r_irankOf : List XO := [(.mv (.t 2))]
theorem c_irankOf : convF Try.prog [147, 148, 152, 160, 162, 163, 170, 178, 206, 208, 210, 224, 233, 235, 236, 251, 264, 265, 268, 270, 287, 322] Try.f280 [([0], []), ([0, 3], []), ([0, 3, 8, 9], []), ([3, 9], [0, 8]), ([0, 3, 8, 9, 10], []), ([0, 3, 4, 8, 9], []), ([0, 3, 4, 5, 8, 9], []), ([0, 3, 4, 5, 6, 8, 9], []), ([5, 6], [0, 3, 4, 8, 9]), ([0, 3, 4, 5, 6, 8, 9, 17], []), ([0, 3, 4, 5, 6, 8, 9, 26], []), ([0, 3, 4, 5, 6, 8, 9], []), ([0, 3, 4, 5, 6, 8, 9], []), ([0, 3, 8, 9], []), ([0, 3, 8, 9], []), ([2], [])] = some (x_irankOf, r_irankOf) := by kernel_rfl
def us_irankOf :=  (aI (aI (aI (aI @u280_0 @u280_1) (aI @u280_2 @u280_3)) (aI (aI @u280_4 @u280_5) (aI @u280_6 (aI @u280_7 @u280_8)))) (aI (aI (aI @u280_9 @u280_10) (aI @u280_11 @u280_12)) (aI (aI @u280_13 @u280_14) (aI @u280_15 (aI @u280_16 @u280_17)))))
abbrev b195_1 : X := (.seq (.reg [2] (.c (.q 3 [] (.mv (.t 0))) (.c (.e (some 4) [] (.call false 115 [(.t 3)])) (.c (.q 5 [] (.mv (.t 4))) (.c (.q 6 [(5, true)] (.mv (.t 0))) (.c (.q 7 [(5, true)] (.lens (.t 6))) (.c (.q 8 [(5, true)] (.bin .gtr (.t 7) (.c (.int .i64 0)))) (.c (.q 9 [] (.pick (.t 5) (.t 8) (.c (.bool false)))) (.c (.q 10 [] (.mv (.t 9))) (.c (.q 11 [(10, true)] (.mv (.t 0))) (.c (.q 12 [(10, true)] (.ia 1 (.t 11) (.c (.int .i64 0)))) (.c (.q 13 [(10, true)] (.ld (.t 12))) (.c (.q 14 [(10, true)] (.len (.t 13))) (.c (.q 15 [(10, true)] (.bin .leq (.t 14) (.c (.int .i64 6)))) (.c (.q 16 [] (.pick (.t 10) (.t 15) (.c (.bool false)))) (.c (.q 2 [] (.mv (.t 16))) .nil)))))))))))))))) .ret)
def t195_1 := b195_1
theorem u195_1 : vcK P t195_1 k e w = vcK P b195_1 k e w := rfl
abbrev b195_0 : X := (.seq (.reg [0] (.c (.q 2 [] (.mv (.c (.bool false)))) .nil)) t195_1)
def x_icountable := b195_0
theorem u195_0 : vcK P x_icountable k e w = vcK P b195_0 k e w := rfl
def r_icountable : List XO := [(.mv (.t 2))]
theorem c_icountable : convF Try.prog [147, 148, 152, 160, 162, 163, 170, 178, 206, 208, 210, 224, 233, 235, 236, 251, 264, 265, 268, 270, 287, 322] Try.f195 [([0], []), ([2], [])] = some (x_icountable, r_icountable) := by kernel_rfl
def us_icountable :=  (aI @u195_0 @u195_1)
abbrev b196_1 : X := (.reg [3, 12, 13, 14] (.c (.q 18 [] (.mv (.t 3))) (.c (.q 19 [] (.mv (.t 5))) (.c (.e (some 20) [] (.call false 280 [(.t 19)])) (.c (.q 21 [] (.ia 1 (.t 18) (.t 20))) (.c (.q 22 [] (.ld (.t 21))) (.c (.q 23 [] (.bin .add (.t 22) (.c (.int .i64 1)))) (.c (.q 24 [] (.ia 1 (.t 18) (.t 20))) (.c (.e none [] (.st 1 (.t 24) (.t 23))) .nil)))))))))
def t196_1 := b196_1
theorem u196_1 : vcK P t196_1 k e w = vcK P b196_1 k e w := rfl
abbrev b196_2 : X := (.reg [3, 12, 13, 14] (.c (.q 25 [] (.bin .add (.t 14) (.c (.int .i64 1)))) (.c (.q 14 [] (.mv (.t 25))) .nil)))
def t196_2 := b196_2
theorem u196_2 : vcK P t196_2 k e w = vcK P b196_2 k e w := rfl
abbrev b196_3 : X := (.seq (.blk 1 (.seq (.reg [3, 5, 12, 13, 14] (.c (.q 16 [] (.ia 1 (.t 12) (.t 14))) (.c (.q 17 [] (.ld (.t 16))) (.c (.q 5 [] (.mv (.t 17))) .nil)))) t196_1)) t196_2)
def t196_3 := b196_3
theorem u196_3 : vcK P t196_3 k e w = vcK P b196_3 k e w := rfl
abbrev b196_4 : X := (.seq (.cond (.t 15) .skip (.exit 0)) t196_3)
def t196_4 := b196_4
theorem u196_4 : vcK P t196_4 k e w = vcK P b196_4 k e w := rfl
abbrev b196_5 : X := (.seq (.reg [3, 12, 13, 14, 15] (.c (.q 15 [] (.bin .lss (.t 14) (.t 13))) .nil)) t196_4)
def t196_5 := b196_5
theorem u196_5 : vcK P t196_5 k e w = vcK P b196_5 k e w := rfl
abbrev b196_6 : X := (.blk 0 (.loop [14] [3, 12, 13] t196_5))
def t196_6 := b196_6
theorem u196_6 : vcK P t196_6 k e w = vcK P b196_6 k e w := rfl
abbrev b196_7 : X := (.seq (.reg [2] (.c (.q 26 [] (.mv (.t 3))) (.c (.q 2 [] (.mv (.t 26))) .nil))) .ret)
def t196_7 := b196_7
theorem u196_7 : vcK P t196_7 k e w = vcK P b196_7 k e w := rfl
abbrev b196_8 : X := (.seq (.seq (.reg [3, 12, 13, 14] (.c (.q 12 [] (.mv (.t 0))) (.c (.q 13 [] (.lens (.t 12))) (.c (.q 14 [] (.mv (.c (.int .i64 0)))) .nil)))) t196_6) t196_7)
def t196_8 := b196_8
theorem u196_8 : vcK P t196_8 k e w = vcK P b196_8 k e w := rfl
abbrev b196_9 : X := (.seq (.reg [0, 3] (.c (.q 6 [] (.mv (.t 0))) (.c (.q 7 [] (.ia 1 (.t 6) (.c (.int .i64 0)))) (.c (.q 8 [] (.ld (.t 7))) (.c (.q 9 [] (.len (.t 8))) (.c (.e (some 10) [] (.call false 279 [(.t 9)])) (.c (.e (some 11) [] (.msl 39 3 1 8 [(.int .i64 0)] (.t 10) (.t 10))) (.c (.q 3 [] (.mv (.t 11))) .nil)))))))) t196_8)
def t196_9 := b196_9
theorem u196_9 : vcK P t196_9 k e w = vcK P b196_9 k e w := rfl
abbrev b196_0 : X := (.seq (.reg [0] (.c (.q 2 [] (.mv (.c (.slice none 0 0)))) .nil)) t196_9)
def x_icounts := b196_0
theorem u196_0 : vcK P x_icounts k e w = vcK P b196_0 k e w := rfl
def r_icounts : List XO := [(.mv (.t 2))]
theorem c_icounts : convF Try.prog [147, 148, 152, 160, 162, 163, 170, 178, 206, 208, 210, 224, 233, 235, 236, 251, 264, 265, 268, 270, 287, 322] Try.f196 [([0], []), ([0, 3], []), ([3, 12, 13, 14], []), ([14], [3, 12, 13]), ([3, 12, 13, 14, 15], []), ([3, 5, 12, 13, 14], []), ([3, 12, 13, 14], []), ([3, 12, 13, 14], []), ([2], [])] = some (x_icounts, r_icounts) := by kernel_rfl
def us_icounts :=  (aI (aI (aI @u196_0 @u196_1) (aI @u196_2 (aI @u196_3 @u196_4))) (aI (aI @u196_5 @u196_6) (aI @u196_7 (aI @u196_8 @u196_9))))
abbrev b74_1 : X := (.cond (.t 6) (.seq (.reg [2, 3] (.c (.q 2 [] (.mv (.c (.slice none 0 0)))) (.c (.q 3 [] (.mv (.c (.bool false)))) .nil))) .ret) .skip)
def t74_1 := b74_1
theorem u74_1 : vcK P t74_1 k e w = vcK P b74_1 k e w := rfl
abbrev b74_2 : X := (.seq (.reg [2, 3] (.c (.q 7 [] (.mv (.t 0))) (.c (.e (some 8) [] (.call false 196 [(.t 7)])) (.c (.q 2 [] (.mv (.t 8))) (.c (.q 3 [] (.mv (.c (.bool true)))) .nil))))) .ret)
def t74_2 := b74_2
theorem u74_2 : vcK P t74_2 k e w = vcK P b74_2 k e w := rfl
abbrev b74_3 : X := (.seq (.seq (.reg [0, 6] (.c (.q 4 [] (.mv (.t 0))) (.c (.e (some 5) [] (.call false 195 [(.t 4)])) (.c (.q 6 [] (.not (.t 5))) .nil)))) t74_1) t74_2)
def t74_3 := b74_3
theorem u74_3 : vcK P t74_3 k e w = vcK P b74_3 k e w := rfl
abbrev b74_0 : X := (.seq (.reg [0] (.c (.q 2 [] (.mv (.c (.slice none 0 0)))) (.c (.q 3 [] (.mv (.c (.bool false)))) .nil))) t74_3)
def x_iHowOften := b74_0
theorem u74_0 : vcK P x_iHowOften k e w = vcK P b74_0 k e w := rfl
def r_iHowOften : List XO := [(.mv (.t 2)), (.mv (.t 3))]
theorem c_iHowOften : convF Try.prog [147, 148, 152, 160, 162, 163, 170, 178, 206, 208, 210, 224, 233, 235, 236, 251, 264, 265, 268, 270, 287, 322] Try.f74 [([0], []), ([0, 6], []), ([2, 3], []), ([2, 3], [])] = some (x_iHowOften, r_iHowOften) := by kernel_rfl
def us_iHowOften :=  (aI (aI @u74_0 @u74_1) (aI @u74_2 @u74_3))
abbrev b200_1 : X := (.reg [3, 12, 13, 14] (.c (.q 18 [] (.mv (.t 3))) (.c (.q 19 [] (.mv (.t 5))) (.c (.e (some 20) [] (.call false 278 [(.t 19)])) (.c (.q 21 [] (.ia 1 (.t 18) (.t 20))) (.c (.q 22 [] (.ld (.t 21))) (.c (.q 23 [] (.bin .add (.t 22) (.c (.int .i64 1)))) (.c (.q 24 [] (.ia 1 (.t 18) (.t 20))) (.c (.e none [] (.st 1 (.t 24) (.t 23))) .nil)))))))))
def t200_1 := b200_1
theorem u200_1 : vcK P t200_1 k e w = vcK P b200_1 k e w := rfl
abbrev b200_2 : X := (.reg [3, 12, 13, 14] (.c (.q 25 [] (.bin .add (.t 14) (.c (.int .i64 1)))) (.c (.q 14 [] (.mv (.t 25))) .nil)))
def t200_2 := b200_2
theorem u200_2 : vcK P t200_2 k e w = vcK P b200_2 k e w := rfl
abbrev b200_3 : X := (.seq (.blk 1 (.seq (.reg [3, 5, 12, 13, 14] (.c (.q 16 [] (.ia 1 (.t 12) (.t 14))) (.c (.q 17 [] (.ld (.t 16))) (.c (.q 5 [] (.mv (.t 17))) .nil)))) t200_1)) t200_2)
def t200_3 := b200_3
theorem u200_3 : vcK P t200_3 k e w = vcK P b200_3 k e w := rfl
abbrev b200_4 : X := (.seq (.cond (.t 15) .skip (.exit 0)) t200_3)
def t200_4 := b200_4
theorem u200_4 : vcK P t200_4 k e w = vcK P b200_4 k e w := rfl
abbrev b200_5 : X := (.seq (.reg [3, 12, 13, 14, 15] (.c (.q 15 [] (.bin .lss (.t 14) (.t 13))) .nil)) t200_4)
def t200_5 := b200_5
theorem u200_5 : vcK P t200_5 k e w = vcK P b200_5 k e w := rfl
abbrev b200_6 : X := (.blk 0 (.loop [14] [3, 12, 13] t200_5))
def t200_6 := b200_6
theorem u200_6 : vcK P t200_6 k e w = vcK P b200_6 k e w := rfl
abbrev b200_7 : X := (.seq (.reg [2] (.c (.q 26 [] (.mv (.t 3))) (.c (.q 2 [] (.mv (.t 26))) .nil))) .ret)
def t200_7 := b200_7
theorem u200_7 : vcK P t200_7 k e w = vcK P b200_7 k e w := rfl
abbrev b200_8 : X := (.seq (.seq (.reg [3, 12, 13, 14] (.c (.q 12 [] (.mv (.t 0))) (.c (.q 13 [] (.lens (.t 12))) (.c (.q 14 [] (.mv (.c (.int .i64 0)))) .nil)))) t200_6) t200_7)
def t200_8 := b200_8
theorem u200_8 : vcK P t200_8 k e w = vcK P b200_8 k e w := rfl
abbrev b200_9 : X := (.seq (.reg [0, 3] (.c (.q 6 [] (.mv (.t 0))) (.c (.q 7 [] (.ia 1 (.t 6) (.c (.int .i64 0)))) (.c (.q 8 [] (.ld (.t 7))) (.c (.q 9 [] (.len (.t 8))) (.c (.e (some 10) [] (.call false 275 [(.t 9)])) (.c (.e (some 11) [] (.msl 39 3 1 8 [(.int .i64 0)] (.t 10) (.t 10))) (.c (.q 3 [] (.mv (.t 11))) .nil)))))))) t200_8)
def t200_9 := b200_9
theorem u200_9 : vcK P t200_9 k e w = vcK P b200_9 k e w := rfl
abbrev b200_0 : X := (.seq (.reg [0] (.c (.q 2 [] (.mv (.c (.slice none 0 0)))) .nil)) t200_9)
def x_sl7Often := b200_0
theorem u200_0 : vcK P x_sl7Often k e w = vcK P b200_0 k e w := rfl
def r_sl7Often : List XO := [(.mv (.t 2))]
theorem c_sl7Often : convF Try.prog [147, 148, 152, 160, 162, 163, 170, 178, 206, 208, 210, 224, 233, 235, 236, 251, 264, 265, 268, 270, 287, 322] Try.f200 [([0], []), ([0, 3], []), ([3, 12, 13, 14], []), ([14], [3, 12, 13]), ([3, 12, 13, 14, 15], []), ([3, 5, 12, 13, 14], []), ([3, 12, 13, 14], []), ([3, 12, 13, 14], []), ([2], [])] = some (x_sl7Often, r_sl7Often) := by kernel_rfl
def us_sl7Often :=  (aI (aI (aI @u200_0 @u200_1) (aI @u200_2 (aI @u200_3 @u200_4))) (aI (aI @u200_5 @u200_6) (aI @u200_7 (aI @u200_8 @u200_9))))
abbrev b199_1 : X := (.seq (.reg [2] (.c (.q 3 [] (.mv (.t 0))) (.c (.e (some 4) [] (.call false 172 [(.t 3)])) (.c (.q 5 [] (.mv (.t 4))) (.c (.q 6 [(5, true)] (.mv (.t 0))) (.c (.q 7 [(5, true)] (.lens (.t 6))) (.c (.q 8 [(5, true)] (.bin .gtr (.t 7) (.c (.int .i64 0)))) (.c (.q 9 [] (.pick (.t 5) (.t 8) (.c (.bool false)))) (.c (.q 10 [] (.mv (.t 9))) (.c (.q 11 [(10, true)] (.mv (.t 0))) (.c (.q 12 [(10, true)] (.ia 1 (.t 11) (.c (.int .i64 0)))) (.c (.q 13 [(10, true)] (.ld (.t 12))) (.c (.q 14 [(10, true)] (.len (.t 13))) (.c (.q 15 [(10, true)] (.bin .leq (.t 14) (.c (.int .i64 6)))) (.c (.q 16 [] (.pick (.t 10) (.t 15) (.c (.bool false)))) (.c (.q 2 [] (.mv (.t 16))) .nil)))))))))))))))) .ret)
def t199_1 := b199_1
theorem u199_1 : vcK P t199_1 k e w = vcK P b199_1 k e w := rfl
abbrev b199_0 : X := (.seq (.reg [0] (.c (.q 2 [] (.mv (.c (.bool false)))) .nil)) t199_1)
def x_sl7Small := b199_0
theorem u199_0 : vcK P x_sl7Small k e w = vcK P b199_0 k e w := rfl
def r_sl7Small : List XO := [(.mv (.t 2))]
theorem c_sl7Small : convF Try.prog [147, 148, 152, 160, 162, 163, 170, 178, 206, 208, 210, 224, 233, 235, 236, 251, 264, 265, 268, 270, 287, 322] Try.f199 [([0], []), ([2], [])] = some (x_sl7Small, r_sl7Small) := by kernel_rfl
def us_sl7Small :=  (aI @u199_0 @u199_1)
abbrev b75_1 : X := (.cond (.t 6) (.seq (.reg [2, 3] (.c (.q 2 [] (.mv (.c (.slice none 0 0)))) (.c (.q 3 [] (.mv (.c (.bool false)))) .nil))) .ret) .skip)
def t75_1 := b75_1
theorem u75_1 : vcK P t75_1 k e w = vcK P b75_1 k e w := rfl
abbrev b75_2 : X := (.seq (.reg [2, 3] (.c (.q 7 [] (.mv (.t 0))) (.c (.e (some 8) [] (.call false 200 [(.t 7)])) (.c (.q 2 [] (.mv (.t 8))) (.c (.q 3 [] (.mv (.c (.bool true)))) .nil))))) .ret)
def t75_2 := b75_2
theorem u75_2 : vcK P t75_2 k e w = vcK P b75_2 k e w := rfl
abbrev b75_3 : X := (.seq (.seq (.reg [0, 6] (.c (.q 4 [] (.mv (.t 0))) (.c (.e (some 5) [] (.call false 199 [(.t 4)])) (.c (.q 6 [] (.not (.t 5))) .nil)))) t75_1) t75_2)
def t75_3 := b75_3
theorem u75_3 : vcK P t75_3 k e w = vcK P b75_3 k e w := rfl
abbrev b75_0 : X := (.seq (.reg [0] (.c (.q 2 [] (.mv (.c (.slice none 0 0)))) (.c (.q 3 [] (.mv (.c (.bool false)))) .nil))) t75_3)
def x_sHowOften := b75_0
theorem u75_0 : vcK P x_sHowOften k e w = vcK P b75_0 k e w := rfl
def r_sHowOften : List XO := [(.mv (.t 2)), (.mv (.t 3))]
theorem c_sHowOften : convF Try.prog [147, 148, 152, 160, 162, 163, 170, 178, 206, 208, 210, 224, 233, 235, 236, 251, 264, 265, 268, 270, 287, 322] Try.f75 [([0], []), ([0, 6], []), ([2, 3], []), ([2, 3], [])] = some (x_sHowOften, r_sHowOften) := by kernel_rfl
def us_sHowOften :=  (aI (aI @u75_0 @u75_1) (aI @u75_2 @u75_3))
abbrev b197_1 : X := (.cond (.t 7) .dead .skip)
def t197_1 := b197_1
theorem u197_1 : vcK P t197_1 k e w = vcK P b197_1 k e w := rfl
abbrev b197_2 : X := (.cond (.t 15) .skip (.exit 0))
def t197_2 := b197_2
theorem u197_2 : vcK P t197_2 k e w = vcK P b197_2 k e w := rfl
abbrev b197_3 : X := (.reg [0, 3, 4] (.c (.q 16 [] (.mv (.t 4))) (.c (.q 17 [] (.bin .add (.t 16) (.c (.int .i64 1)))) (.c (.q 4 [] (.mv (.t 17))) .nil))))
def t197_3 := b197_3
theorem u197_3 : vcK P t197_3 k e w = vcK P b197_3 k e w := rfl
abbrev b197_4 : X := (.seq (.blk 1 (.reg [0, 3, 4] (.c (.q 18 [] (.mv (.t 3))) (.c (.q 19 [] (.mv (.t 0))) (.c (.q 20 [] (.mv (.t 4))) (.c (.q 21 [] (.ia 1 (.t 19) (.t 20))) (.c (.q 22 [] (.ld (.t 21))) (.c (.q 23 [] (.mn (.t 18) (.t 22))) (.c (.q 3 [] (.mv (.t 23))) .nil))))))))) t197_3)
def t197_4 := b197_4
theorem u197_4 : vcK P t197_4 k e w = vcK P b197_4 k e w := rfl
abbrev b197_5 : X := (.seq (.seq (.reg [0, 3, 4, 15] (.c (.q 12 [] (.mv (.t 4))) (.c (.q 13 [] (.mv (.t 0))) (.c (.q 14 [] (.lens (.t 13))) (.c (.q 15 [] (.bin .lss (.t 12) (.t 14))) .nil))))) t197_2) t197_4)
def t197_5 := b197_5
theorem u197_5 : vcK P t197_5 k e w = vcK P b197_5 k e w := rfl
abbrev b197_6 : X := (.blk 0 (.loop [3, 4] [0] t197_5))
def t197_6 := b197_6
theorem u197_6 : vcK P t197_6 k e w = vcK P b197_6 k e w := rfl
abbrev b197_7 : X := (.seq (.reg [2] (.c (.q 24 [] (.mv (.t 3))) (.c (.q 2 [] (.mv (.t 24))) .nil))) .ret)
def t197_7 := b197_7
theorem u197_7 : vcK P t197_7 k e w = vcK P b197_7 k e w := rfl
abbrev b197_8 : X := (.seq (.seq (.reg [0, 3, 4] (.c (.q 4 [] (.mv (.c (.int .i64 1)))) .nil)) t197_6) t197_7)
def t197_8 := b197_8
theorem u197_8 : vcK P t197_8 k e w = vcK P b197_8 k e w := rfl
abbrev b197_9 : X := (.seq (.reg [0, 3] (.c (.q 9 [] (.mv (.t 0))) (.c (.q 10 [] (.ia 1 (.t 9) (.c (.int .i64 0)))) (.c (.q 11 [] (.ld (.t 10))) (.c (.q 3 [] (.mv (.t 11))) .nil))))) t197_8)
def t197_9 := b197_9
theorem u197_9 : vcK P t197_9 k e w = vcK P b197_9 k e w := rfl
abbrev b197_10 : X := (.seq (.seq (.reg [0, 7] (.c (.q 5 [] (.mv (.t 0))) (.c (.q 6 [] (.lens (.t 5))) (.c (.q 7 [] (.bin .lss (.t 6) (.c (.int .i64 1)))) .nil)))) t197_1) t197_9)
def t197_10 := b197_10
theorem u197_10 : vcK P t197_10 k e w = vcK P b197_10 k e w := rfl
abbrev b197_0 : X := (.seq (.reg [0] (.c (.q 2 [] (.mv (.c (.int .i64 0)))) .nil)) t197_10)
def x_xslices_Min_int_int := b197_0
theorem u197_0 : vcK P x_xslices_Min_int_int k e w = vcK P b197_0 k e w := rfl
def r_xslices_Min_int_int : List XO := [(.mv (.t 2))]
theorem c_xslices_Min_int_int : convF Try.prog [147, 148, 152, 160, 162, 163, 170, 178, 206, 208, 210, 224, 233, 235, 236, 251, 264, 265, 268, 270, 287, 322] Try.f197 [([0], []), ([0, 7], []), ([0], []), ([0, 3], []), ([0, 3, 4], []), ([3, 4], [0]), ([0, 3, 4, 15], []), ([0, 3, 4], []), ([0, 3, 4], []), ([2], [])] = some (x_xslices_Min_int_int, r_xslices_Min_int_int) := by kernel_rfl
def us_xslices_Min_int_int :=  (aI (aI (aI @u197_0 @u197_1) (aI @u197_2 (aI @u197_3 @u197_4))) (aI (aI @u197_5 (aI @u197_6 @u197_7)) (aI @u197_8 (aI @u197_9 @u197_10))))
abbrev b198_1 : X := (.cond (.t 7) .dead .skip)
def t198_1 := b198_1
theorem u198_1 : vcK P t198_1 k e w = vcK P b198_1 k e w := rfl
abbrev b198_2 : X := (.cond (.t 15) .skip (.exit 0))
def t198_2 := b198_2
theorem u198_2 : vcK P t198_2 k e w = vcK P b198_2 k e w := rfl
abbrev b198_3 : X := (.reg [0, 3, 4] (.c (.q 16 [] (.mv (.t 4))) (.c (.q 17 [] (.bin .add (.t 16) (.c (.int .i64 1)))) (.c (.q 4 [] (.mv (.t 17))) .nil))))
def t198_3 := b198_3
theorem u198_3 : vcK P t198_3 k e w = vcK P b198_3 k e w := rfl
abbrev b198_4 : X := (.seq (.blk 1 (.reg [0, 3, 4] (.c (.q 18 [] (.mv (.t 3))) (.c (.q 19 [] (.mv (.t 0))) (.c (.q 20 [] (.mv (.t 4))) (.c (.q 21 [] (.ia 1 (.t 19) (.t 20))) (.c (.q 22 [] (.ld (.t 21))) (.c (.q 23 [] (.mx (.t 18) (.t 22))) (.c (.q 3 [] (.mv (.t 23))) .nil))))))))) t198_3)
def t198_4 := b198_4
theorem u198_4 : vcK P t198_4 k e w = vcK P b198_4 k e w := rfl
abbrev b198_5 : X := (.seq (.seq (.reg [0, 3, 4, 15] (.c (.q 12 [] (.mv (.t 4))) (.c (.q 13 [] (.mv (.t 0))) (.c (.q 14 [] (.lens (.t 13))) (.c (.q 15 [] (.bin .lss (.t 12) (.t 14))) .nil))))) t198_2) t198_4)
def t198_5 := b198_5
theorem u198_5 : vcK P t198_5 k e w = vcK P b198_5 k e w := rfl
abbrev b198_6 : X := (.blk 0 (.loop [3, 4] [0] t198_5))
def t198_6 := b198_6
theorem u198_6 : vcK P t198_6 k e w = vcK P b198_6 k e w := rfl
abbrev b198_7 : X := (.seq (.reg [2] (.c (.q 24 [] (.mv (.t 3))) (.c (.q 2 [] (.mv (.t 24))) .nil))) .ret)
def t198_7 := b198_7
theorem u198_7 : vcK P t198_7 k e w = vcK P b198_7 k e w := rfl
abbrev b198_8 : X := (.seq (.seq (.reg [0, 3, 4] (.c (.q 4 [] (.mv (.c (.int .i64 1)))) .nil)) t198_6) t198_7)
def t198_8 := b198_8
theorem u198_8 : vcK P t198_8 k e w = vcK P b198_8 k e w := rfl
abbrev b198_9 : X := (.seq (.reg [0, 3] (.c (.q 9 [] (.mv (.t 0))) (.c (.q 10 [] (.ia 1 (.t 9) (.c (.int .i64 0)))) (.c (.q 11 [] (.ld (.t 10))) (.c (.q 3 [] (.mv (.t 11))) .nil))))) t198_8)
def t198_9 := b198_9
theorem u198_9 : vcK P t198_9 k e w = vcK P b198_9 k e w := rfl
abbrev b198_10 : X := (.seq (.seq (.reg [0, 7] (.c (.q 5 [] (.mv (.t 0))) (.c (.q 6 [] (.lens (.t 5))) (.c (.q 7 [] (.bin .lss (.t 6) (.c (.int .i64 1)))) .nil)))) t198_1) t198_9)
def t198_10 := b198_10
theorem u198_10 : vcK P t198_10 k e w = vcK P b198_10 k e w := rfl
abbrev b198_0 : X := (.seq (.reg [0] (.c (.q 2 [] (.mv (.c (.int .i64 0)))) .nil)) t198_10)
def x_xslices_Max_int_int := b198_0
theorem u198_0 : vcK P x_xslices_Max_int_int k e w = vcK P b198_0 k e w := rfl
def r_xslices_Max_int_int : List XO := [(.mv (.t 2))]
theorem c_xslices_Max_int_int : convF Try.prog [147, 148, 152, 160, 162, 163, 170, 178, 206, 208, 210, 224, 233, 235, 236, 251, 264, 265, 268, 270, 287, 322] Try.f198 [([0], []), ([0, 7], []), ([0], []), ([0, 3], []), ([0, 3, 4], []), ([3, 4], [0]), ([0, 3, 4, 15], []), ([0, 3, 4], []), ([0, 3, 4], []), ([2], [])] = some (x_xslices_Max_int_int, r_xslices_Max_int_int) := by kernel_rfl
def us_xslices_Max_int_int :=  (aI (aI (aI @u198_0 @u198_1) (aI @u198_2 (aI @u198_3 @u198_4))) (aI (aI @u198_5 (aI @u198_6 @u198_7)) (aI @u198_8 (aI @u198_9 @u198_10))))
abbrev b72_1 : X := (.cond (.t 7) (.seq (.reg [2, 3] (.c (.q 2 [] (.mv (.c (.bool false)))) (.c (.q 3 [] (.mv (.c (.bool false)))) .nil))) .ret) .skip)
def t72_1 := b72_1
theorem u72_1 : vcK P t72_1 k e w = vcK P b72_1 k e w := rfl
abbrev b72_2 : X := (.seq (.reg [2, 3] (.c (.q 10 [] (.mv (.t 4))) (.c (.e (some 11) [] (.call false 197 [(.t 10)])) (.c (.q 12 [] (.mv (.t 4))) (.c (.e (some 13) [] (.call false 198 [(.t 12)])) (.c (.q 14 [] (.bin .eql (.t 11) (.t 13))) (.c (.q 2 [] (.mv (.t 14))) (.c (.q 3 [] (.mv (.c (.bool true)))) .nil)))))))) .ret)
def t72_2 := b72_2
theorem u72_2 : vcK P t72_2 k e w = vcK P b72_2 k e w := rfl
abbrev b72_3 : X := (.seq (.reg [4] (.c (.q 8 [] (.mv (.t 0))) (.c (.e (some 9) [] (.call false 196 [(.t 8)])) (.c (.q 4 [] (.mv (.t 9))) .nil)))) t72_2)
def t72_3 := b72_3
theorem u72_3 : vcK P t72_3 k e w = vcK P b72_3 k e w := rfl
abbrev b72_4 : X := (.seq (.seq (.reg [0, 7] (.c (.q 5 [] (.mv (.t 0))) (.c (.e (some 6) [] (.call false 195 [(.t 5)])) (.c (.q 7 [] (.not (.t 6))) .nil)))) t72_1) t72_3)
def t72_4 := b72_4
theorem u72_4 : vcK P t72_4 k e w = vcK P b72_4 k e w := rfl
abbrev b72_0 : X := (.seq (.reg [0] (.c (.q 2 [] (.mv (.c (.bool false)))) (.c (.q 3 [] (.mv (.c (.bool false)))) .nil))) t72_4)
def x_iIsLevel := b72_0
theorem u72_0 : vcK P x_iIsLevel k e w = vcK P b72_0 k e w := rfl
def r_iIsLevel : List XO := [(.mv (.t 2)), (.mv (.t 3))]
theorem c_iIsLevel : convF Try.prog [147, 148, 152, 160, 162, 163, 170, 178, 206, 208, 210, 224, 233, 235, 236, 251, 264, 265, 268, 270, 287, 322] Try.f72 [([0], []), ([0, 7], []), ([2, 3], []), ([4], []), ([2, 3], [])] = some (x_iIsLevel, r_iIsLevel) := by kernel_rfl
def us_iIsLevel :=  (aI (aI @u72_0 @u72_1) (aI @u72_2 (aI @u72_3 @u72_4)))
abbrev b73_1 : X := (.cond (.t 9) (.seq (.reg [2, 3] (.c (.q 2 [] (.mv (.c (.bool false)))) (.c (.q 3 [] (.mv (.c (.bool false)))) .nil))) .ret) .skip)
def t73_1 := b73_1
theorem u73_1 : vcK P t73_1 k e w = vcK P b73_1 k e w := rfl
abbrev b73_2 : X := (.cond (.t 22) (.seq (.reg [2, 3] (.c (.q 2 [] (.mv (.c (.bool false)))) (.c (.q 3 [] (.mv (.c (.bool true)))) .nil))) .ret) .skip)
def t73_2 := b73_2
theorem u73_2 : vcK P t73_2 k e w = vcK P b73_2 k e w := rfl
abbrev b73_3 : X := (.seq (.reg [4, 12, 13, 14, 22] (.c (.q 18 [] (.mv (.t 6))) (.c (.q 19 [] (.mv (.t 4))) (.c (.q 20 [] (.ia 1 (.t 19) (.c (.int .i64 0)))) (.c (.q 21 [] (.ld (.t 20))) (.c (.q 22 [] (.bin .neq (.t 18) (.t 21))) .nil)))))) t73_2)
def t73_3 := b73_3
theorem u73_3 : vcK P t73_3 k e w = vcK P b73_3 k e w := rfl
abbrev b73_4 : X := (.reg [4, 12, 13, 14] (.c (.q 23 [] (.bin .add (.t 14) (.c (.int .i64 1)))) (.c (.q 14 [] (.mv (.t 23))) .nil)))
def t73_4 := b73_4
theorem u73_4 : vcK P t73_4 k e w = vcK P b73_4 k e w := rfl
abbrev b73_5 : X := (.seq (.blk 1 (.seq (.reg [4, 6, 12, 13, 14] (.c (.q 16 [] (.ia 1 (.t 12) (.t 14))) (.c (.q 17 [] (.ld (.t 16))) (.c (.q 6 [] (.mv (.t 17))) .nil)))) t73_3)) t73_4)
def t73_5 := b73_5
theorem u73_5 : vcK P t73_5 k e w = vcK P b73_5 k e w := rfl
abbrev b73_6 : X := (.seq (.cond (.t 15) .skip (.exit 0)) t73_5)
def t73_6 := b73_6
theorem u73_6 : vcK P t73_6 k e w = vcK P b73_6 k e w := rfl
abbrev b73_7 : X := (.seq (.reg [4, 12, 13, 14, 15] (.c (.q 15 [] (.bin .lss (.t 14) (.t 13))) .nil)) t73_6)
def t73_7 := b73_7
theorem u73_7 : vcK P t73_7 k e w = vcK P b73_7 k e w := rfl
abbrev b73_8 : X := (.blk 0 (.loop [14] [4, 12, 13] t73_7))
def t73_8 := b73_8
theorem u73_8 : vcK P t73_8 k e w = vcK P b73_8 k e w := rfl
abbrev b73_9 : X := (.seq (.reg [2, 3] (.c (.q 2 [] (.mv (.c (.bool true)))) (.c (.q 3 [] (.mv (.c (.bool true)))) .nil))) .ret)
def t73_9 := b73_9
theorem u73_9 : vcK P t73_9 k e w = vcK P b73_9 k e w := rfl
abbrev b73_10 : X := (.seq (.seq (.reg [4, 12, 13, 14] (.c (.q 12 [] (.mv (.t 4))) (.c (.q 13 [] (.lens (.t 12))) (.c (.q 14 [] (.mv (.c (.int .i64 0)))) .nil)))) t73_8) t73_9)
def t73_10 := b73_10
theorem u73_10 : vcK P t73_10 k e w = vcK P b73_10 k e w := rfl
abbrev b73_11 : X := (.seq (.reg [4] (.c (.q 10 [] (.mv (.t 0))) (.c (.e (some 11) [] (.call false 200 [(.t 10)])) (.c (.q 4 [] (.mv (.t 11))) .nil)))) t73_10)
def t73_11 := b73_11
theorem u73_11 : vcK P t73_11 k e w = vcK P b73_11 k e w := rfl
abbrev b73_12 : X := (.seq (.seq (.reg [0, 9] (.c (.q 7 [] (.mv (.t 0))) (.c (.e (some 8) [] (.call false 199 [(.t 7)])) (.c (.q 9 [] (.not (.t 8))) .nil)))) t73_1) t73_11)
def t73_12 := b73_12
theorem u73_12 : vcK P t73_12 k e w = vcK P b73_12 k e w := rfl
abbrev b73_0 : X := (.seq (.reg [0] (.c (.q 2 [] (.mv (.c (.bool false)))) (.c (.q 3 [] (.mv (.c (.bool false)))) .nil))) t73_12)
def x_sIsLevel := b73_0
theorem u73_0 : vcK P x_sIsLevel k e w = vcK P b73_0 k e w := rfl
def r_sIsLevel : List XO := [(.mv (.t 2)), (.mv (.t 3))]
theorem c_sIsLevel : convF Try.prog [147, 148, 152, 160, 162, 163, 170, 178, 206, 208, 210, 224, 233, 235, 236, 251, 264, 265, 268, 270, 287, 322] Try.f73 [([0], []), ([0, 9], []), ([2, 3], []), ([4], []), ([4, 12, 13, 14], []), ([14], [4, 12, 13]), ([4, 12, 13, 14, 15], []), ([4, 6, 12, 13, 14], []), ([4, 12, 13, 14, 22], []), ([2, 3], []), ([4, 12, 13, 14], []), ([2, 3], [])] = some (x_sIsLevel, r_sIsLevel) := by kernel_rfl
def us_sIsLevel :=  (aI (aI (aI @u73_0 (aI @u73_1 @u73_2)) (aI @u73_3 (aI @u73_4 @u73_5))) (aI (aI @u73_6 (aI @u73_7 @u73_8)) (aI (aI @u73_9 @u73_10) (aI @u73_11 @u73_12))))
abbrev b76_1 : X := (.cond (.t 9) (.seq (.reg [2, 3] (.c (.q 2 [] (.mv (.c (.slice none 0 0)))) (.c (.q 3 [] (.mv (.c (.bool false)))) .nil))) .ret) .skip)
def t76_1 := b76_1
theorem u76_1 : vcK P t76_1 k e w = vcK P b76_1 k e w := rfl
abbrev b76_2 : X := (.cond (.t 20) (.reg [0, 4, 12, 13, 14] (.c (.q 21 [] (.mv (.t 4))) (.c (.q 22 [] (.mv (.t 0))) (.c (.q 23 [] (.ia 1 (.t 22) (.c (.int .i64 0)))) (.c (.q 24 [] (.ld (.t 23))) (.c (.q 25 [] (.len (.t 24))) (.c (.q 26 [] (.mv (.t 5))) (.c (.e (some 27) [] (.call false 201 [(.t 25), (.t 26)])) (.c (.e (some 28) [] (.bsl 9 1 [(.t 27)])) (.c (.e (some 29) [] (.app 24 9 1 16 [(S [])] 24 (.t 21) (.t 28))) (.c (.q 4 [] (.mv (.t 29))) .nil))))))))))) .skip)
def t76_2 := b76_2
theorem u76_2 : vcK P t76_2 k e w = vcK P b76_2 k e w := rfl
abbrev b76_3 : X := (.seq (.reg [0, 4, 5, 12, 13, 14, 20] (.c (.q 19 [] (.mv (.t 6))) (.c (.q 20 [] (.bin .eql (.t 19) (.c (.int .i64 0)))) .nil))) t76_2)
def t76_3 := b76_3
theorem u76_3 : vcK P t76_3 k e w = vcK P b76_3 k e w := rfl
abbrev b76_4 : X := (.reg [0, 4, 12, 13, 14] (.c (.q 30 [] (.bin .add (.t 14) (.c (.int .i64 1)))) (.c (.q 14 [] (.mv (.t 30))) .nil)))
def t76_4 := b76_4
theorem u76_4 : vcK P t76_4 k e w = vcK P b76_4 k e w := rfl
abbrev b76_5 : X := (.seq (.blk 1 (.seq (.reg [0, 4, 5, 6, 12, 13, 14] (.c (.q 16 [] (.mv (.t 14))) (.c (.q 17 [] (.ia 1 (.t 12) (.t 14))) (.c (.q 18 [] (.ld (.t 17))) (.c (.q 5 [] (.mv (.t 16))) (.c (.q 6 [] (.mv (.t 18))) .nil)))))) t76_3)) t76_4)
def t76_5 := b76_5
theorem u76_5 : vcK P t76_5 k e w = vcK P b76_5 k e w := rfl
abbrev b76_6 : X := (.seq (.cond (.t 15) .skip (.exit 0)) t76_5)
def t76_6 := b76_6
theorem u76_6 : vcK P t76_6 k e w = vcK P b76_6 k e w := rfl
abbrev b76_7 : X := (.seq (.reg [0, 4, 12, 13, 14, 15] (.c (.q 15 [] (.bin .lss (.t 14) (.t 13))) .nil)) t76_6)
def t76_7 := b76_7
theorem u76_7 : vcK P t76_7 k e w = vcK P b76_7 k e w := rfl
abbrev b76_8 : X := (.blk 0 (.loop [4, 14] [0, 12, 13] t76_7))
def t76_8 := b76_8
theorem u76_8 : vcK P t76_8 k e w = vcK P b76_8 k e w := rfl
abbrev b76_9 : X := (.cond (.t 33) (.seq (.reg [2, 3] (.c (.q 2 [] (.mv (.c (.slice none 0 0)))) (.c (.q 3 [] (.mv (.c (.bool false)))) .nil))) .ret) .skip)
def t76_9 := b76_9
theorem u76_9 : vcK P t76_9 k e w = vcK P b76_9 k e w := rfl
abbrev b76_10 : X := (.seq (.reg [2, 3] (.c (.q 34 [] (.mv (.t 4))) (.c (.q 2 [] (.mv (.t 34))) (.c (.q 3 [] (.mv (.c (.bool true)))) .nil)))) .ret)
def t76_10 := b76_10
theorem u76_10 : vcK P t76_10 k e w = vcK P b76_10 k e w := rfl
abbrev b76_11 : X := (.seq (.seq (.reg [4, 33] (.c (.q 31 [] (.mv (.t 4))) (.c (.q 32 [] (.lens (.t 31))) (.c (.q 33 [] (.bin .gtr (.t 32) (.c (.int .i64 800)))) .nil)))) t76_9) t76_10)
def t76_11 := b76_11
theorem u76_11 : vcK P t76_11 k e w = vcK P b76_11 k e w := rfl
abbrev b76_12 : X := (.seq (.seq (.reg [0, 4, 12, 13, 14] (.c (.q 11 [] (.mv (.t 0))) (.c (.e (some 12) [] (.call false 196 [(.t 11)])) (.c (.q 13 [] (.lens (.t 12))) (.c (.q 14 [] (.mv (.c (.int .i64 0)))) .nil))))) t76_8) t76_11)
def t76_12 := b76_12
theorem u76_12 : vcK P t76_12 k e w = vcK P b76_12 k e w := rfl
abbrev b76_13 : X := (.seq (.reg [0, 4] (.c (.e (some 10) [] (.bsl 9 1 [])) (.c (.q 4 [] (.mv (.t 10))) .nil))) t76_12)
def t76_13 := b76_13
theorem u76_13 : vcK P t76_13 k e w = vcK P b76_13 k e w := rfl
abbrev b76_14 : X := (.seq (.seq (.reg [0, 9] (.c (.q 7 [] (.mv (.t 0))) (.c (.e (some 8) [] (.call false 195 [(.t 7)])) (.c (.q 9 [] (.not (.t 8))) .nil)))) t76_1) t76_13)
def t76_14 := b76_14
theorem u76_14 : vcK P t76_14 k e w = vcK P b76_14 k e w := rfl
abbrev b76_0 : X := (.seq (.reg [0] (.c (.q 2 [] (.mv (.c (.slice none 0 0)))) (.c (.q 3 [] (.mv (.c (.bool false)))) .nil))) t76_14)
def x_iMissingIn := b76_0
theorem u76_0 : vcK P x_iMissingIn k e w = vcK P b76_0 k e w := rfl
def r_iMissingIn : List XO := [(.mv (.t 2)), (.mv (.t 3))]
theorem c_iMissingIn : convF Try.prog [147, 148, 152, 160, 162, 163, 170, 178, 206, 208, 210, 224, 233, 235, 236, 251, 264, 265, 268, 270, 287, 322] Try.f76 [([0], []), ([0, 9], []), ([2, 3], []), ([0, 4], []), ([0, 4, 12, 13, 14], []), ([4, 14], [0, 12, 13]), ([0, 4, 12, 13, 14, 15], []), ([0, 4, 5, 6, 12, 13, 14], []), ([0, 4, 5, 12, 13, 14, 20], []), ([0, 4, 12, 13, 14], []), ([0, 4, 12, 13, 14], []), ([4, 33], []), ([2, 3], []), ([2, 3], [])] = some (x_iMissingIn, r_iMissingIn) := by kernel_rfl
def us_iMissingIn :=  (aI (aI (aI @u76_0 (aI @u76_1 @u76_2)) (aI (aI @u76_3 @u76_4) (aI @u76_5 @u76_6))) (aI (aI (aI @u76_7 @u76_8) (aI @u76_9 @u76_10)) (aI (aI @u76_11 @u76_12) (aI @u76_13 @u76_14))))
abbrev b77_1 : X := (.cond (.t 11) (.seq (.reg [2, 3] (.c (.q 2 [] (.mv (.c (.slice none 0 0)))) (.c (.q 3 [] (.mv (.c (.bool false)))) .nil))) .ret) .skip)
def t77_1 := b77_1
theorem u77_1 : vcK P t77_1 k e w = vcK P b77_1 k e w := rfl
abbrev b77_2 : X := (.reg [0, 4, 13, 14, 15] (.c (.q 31 [] (.mv (.t 4))) (.c (.q 32 [] (.mv (.t 7))) (.c (.e (some 33) [] (.bsl 9 1 [(.t 32)])) (.c (.e (some 34) [] (.app 24 9 1 16 [(S [])] 24 (.t 31) (.t 33))) (.c (.q 4 [] (.mv (.t 34))) .nil))))))
def t77_2 := b77_2
theorem u77_2 : vcK P t77_2 k e w = vcK P b77_2 k e w := rfl
abbrev b77_3 : X := (.cond (.t 21) (.seq (.reg [0, 4, 7, 13, 14, 15] (.c (.q 23 [] (.mv (.t 0))) (.c (.q 24 [] (.ia 1 (.t 23) (.c (.int .i64 0)))) (.c (.q 25 [] (.ld (.t 24))) (.c (.q 26 [] (.len (.t 25))) (.c (.q 27 [] (.mv (.t 5))) (.c (.e (some 28) [] (.call false 202 [(.t 26), (.t 27)])) (.c (.q 22 [] (.mv (.t 28))) (.c (.q 29 [] (.ext 0 (.t 22))) (.c (.q 30 [] (.ext 1 (.t 22))) (.c (.q 7 [] (.mv (.t 29))) (.c (.q 8 [] (.mv (.t 30))) .nil)))))))))))) t77_2) .skip)
def t77_3 := b77_3
theorem u77_3 : vcK P t77_3 k e w = vcK P b77_3 k e w := rfl
abbrev b77_4 : X := (.seq (.reg [0, 4, 5, 13, 14, 15, 21] (.c (.q 20 [] (.mv (.t 6))) (.c (.q 21 [] (.bin .eql (.t 20) (.c (.int .i64 0)))) .nil))) t77_3)
def t77_4 := b77_4
theorem u77_4 : vcK P t77_4 k e w = vcK P b77_4 k e w := rfl
abbrev b77_5 : X := (.reg [0, 4, 13, 14, 15] (.c (.q 35 [] (.bin .add (.t 15) (.c (.int .i64 1)))) (.c (.q 15 [] (.mv (.t 35))) .nil)))
def t77_5 := b77_5
theorem u77_5 : vcK P t77_5 k e w = vcK P b77_5 k e w := rfl
abbrev b77_6 : X := (.seq (.blk 1 (.seq (.reg [0, 4, 5, 6, 13, 14, 15] (.c (.q 17 [] (.mv (.t 15))) (.c (.q 18 [] (.ia 1 (.t 13) (.t 15))) (.c (.q 19 [] (.ld (.t 18))) (.c (.q 5 [] (.mv (.t 17))) (.c (.q 6 [] (.mv (.t 19))) .nil)))))) t77_4)) t77_5)
def t77_6 := b77_6
theorem u77_6 : vcK P t77_6 k e w = vcK P b77_6 k e w := rfl
abbrev b77_7 : X := (.seq (.cond (.t 16) .skip (.exit 0)) t77_6)
def t77_7 := b77_7
theorem u77_7 : vcK P t77_7 k e w = vcK P b77_7 k e w := rfl
abbrev b77_8 : X := (.seq (.reg [0, 4, 13, 14, 15, 16] (.c (.q 16 [] (.bin .lss (.t 15) (.t 14))) .nil)) t77_7)
def t77_8 := b77_8
theorem u77_8 : vcK P t77_8 k e w = vcK P b77_8 k e w := rfl
abbrev b77_9 : X := (.blk 0 (.loop [4, 15] [0, 13, 14] t77_8))
def t77_9 := b77_9
theorem u77_9 : vcK P t77_9 k e w = vcK P b77_9 k e w := rfl
abbrev b77_10 : X := (.seq (.reg [2, 3] (.c (.q 36 [] (.mv (.t 4))) (.c (.q 2 [] (.mv (.t 36))) (.c (.q 3 [] (.mv (.c (.bool true)))) .nil)))) .ret)
def t77_10 := b77_10
theorem u77_10 : vcK P t77_10 k e w = vcK P b77_10 k e w := rfl
abbrev b77_11 : X := (.seq (.seq (.reg [0, 4, 13, 14, 15] (.c (.q 12 [] (.mv (.t 0))) (.c (.e (some 13) [] (.call false 200 [(.t 12)])) (.c (.q 14 [] (.lens (.t 13))) (.c (.q 15 [] (.mv (.c (.int .i64 0)))) .nil))))) t77_9) t77_10)
def t77_11 := b77_11
theorem u77_11 : vcK P t77_11 k e w = vcK P b77_11 k e w := rfl
abbrev b77_12 : X := (.seq (.reg [0, 4] (.c (.q 4 [] (.mv (.c (.slice none 0 0)))) .nil)) t77_11)
def t77_12 := b77_12
theorem u77_12 : vcK P t77_12 k e w = vcK P b77_12 k e w := rfl
abbrev b77_13 : X := (.seq (.seq (.reg [0, 11] (.c (.q 9 [] (.mv (.t 0))) (.c (.e (some 10) [] (.call false 199 [(.t 9)])) (.c (.q 11 [] (.not (.t 10))) .nil)))) t77_1) t77_12)
def t77_13 := b77_13
theorem u77_13 : vcK P t77_13 k e w = vcK P b77_13 k e w := rfl
abbrev b77_0 : X := (.seq (.reg [0] (.c (.q 2 [] (.mv (.c (.slice none 0 0)))) (.c (.q 3 [] (.mv (.c (.bool false)))) .nil))) t77_13)
def x_sMissingIn := b77_0
theorem u77_0 : vcK P x_sMissingIn k e w = vcK P b77_0 k e w := rfl
def r_sMissingIn : List XO := [(.mv (.t 2)), (.mv (.t 3))]
theorem c_sMissingIn : convF Try.prog [147, 148, 152, 160, 162, 163, 170, 178, 206, 208, 210, 224, 233, 235, 236, 251, 264, 265, 268, 270, 287, 322] Try.f77 [([0], []), ([0, 11], []), ([2, 3], []), ([0, 4], []), ([0, 4, 13, 14, 15], []), ([4, 15], [0, 13, 14]), ([0, 4, 13, 14, 15, 16], []), ([0, 4, 5, 6, 13, 14, 15], []), ([0, 4, 5, 13, 14, 15, 21], []), ([0, 4, 7, 13, 14, 15], []), ([0, 4, 13, 14, 15], []), ([0, 4, 13, 14, 15], []), ([2, 3], [])] = some (x_sMissingIn, r_sMissingIn) := by kernel_rfl
def us_sMissingIn :=  (aI (aI (aI @u77_0 (aI @u77_1 @u77_2)) (aI (aI @u77_3 @u77_4) (aI @u77_5 @u77_6))) (aI (aI @u77_7 (aI @u77_8 @u77_9)) (aI (aI @u77_10 @u77_11) (aI @u77_12 @u77_13))))
abbrev b203_1 : X := (.cond (.t 11) (.seq (.reg [2, 3] (.c (.q 2 [] (.mv (.c (.slice none 0 0)))) (.c (.q 3 [] (.mv (.c (.bool false)))) .nil))) .ret) .skip)
def t203_1 := b203_1
theorem u203_1 : vcK P t203_1 k e w = vcK P b203_1 k e w := rfl
abbrev b203_2 : X := (.cond (.t 34) (.seq (.reg [2, 3] (.c (.q 2 [] (.mv (.c (.slice none 0 0)))) (.c (.q 3 [] (.mv (.c (.bool false)))) .nil))) .ret) .skip)
def t203_2 := b203_2
theorem u203_2 : vcK P t203_2 k e w = vcK P b203_2 k e w := rfl
abbrev b203_3 : X := (.reg [0, 4, 13, 14, 15] (.c (.q 35 [] (.mv (.t 4))) (.c (.q 36 [] (.mv (.t 7))) (.c (.e (some 37) [] (.bsl 9 1 [(.t 36)])) (.c (.e (some 38) [] (.app 24 9 1 16 [(S [])] 24 (.t 35) (.t 37))) (.c (.q 4 [] (.mv (.t 38))) .nil))))))
def t203_3 := b203_3
theorem u203_3 : vcK P t203_3 k e w = vcK P b203_3 k e w := rfl
abbrev b203_4 : X := (.seq (.seq (.reg [0, 4, 7, 13, 14, 15, 34] (.c (.q 33 [] (.mv (.t 8))) (.c (.q 34 [] (.not (.t 33))) .nil))) t203_2) t203_3)
def t203_4 := b203_4
theorem u203_4 : vcK P t203_4 k e w = vcK P b203_4 k e w := rfl
abbrev b203_5 : X := (.seq (.reg [0, 4, 7, 8, 13, 14, 15] (.c (.q 21 [] (.mv (.t 6))) (.c (.q 22 [] (.mv (.t 0))) (.c (.q 23 [] (.mv (.t 5))) (.c (.q 24 [] (.bin .add (.t 23) (.c (.int .i64 1)))) (.c (.q 25 [] (.mv (.t 0))) (.c (.q 26 [] (.lens (.t 25))) (.c (.q 27 [] (.bin .rem (.t 24) (.t 26))) (.c (.q 28 [] (.ia 1 (.t 22) (.t 27))) (.c (.q 29 [] (.ld (.t 28))) (.c (.e (some 30) [] (.call false 212 [(.t 21), (.t 29)])) (.c (.q 20 [] (.mv (.t 30))) (.c (.q 31 [] (.ext 0 (.t 20))) (.c (.q 32 [] (.ext 1 (.t 20))) (.c (.q 7 [] (.mv (.t 31))) (.c (.q 8 [] (.mv (.t 32))) .nil)))))))))))))))) t203_4)
def t203_5 := b203_5
theorem u203_5 : vcK P t203_5 k e w = vcK P b203_5 k e w := rfl
abbrev b203_6 : X := (.reg [0, 4, 13, 14, 15] (.c (.q 39 [] (.bin .add (.t 15) (.c (.int .i64 1)))) (.c (.q 15 [] (.mv (.t 39))) .nil)))
def t203_6 := b203_6
theorem u203_6 : vcK P t203_6 k e w = vcK P b203_6 k e w := rfl
abbrev b203_7 : X := (.seq (.blk 1 (.seq (.reg [0, 4, 5, 6, 13, 14, 15] (.c (.q 17 [] (.mv (.t 15))) (.c (.q 18 [] (.ia 1 (.t 13) (.t 15))) (.c (.q 19 [] (.ld (.t 18))) (.c (.q 5 [] (.mv (.t 17))) (.c (.q 6 [] (.mv (.t 19))) .nil)))))) t203_5)) t203_6)
def t203_7 := b203_7
theorem u203_7 : vcK P t203_7 k e w = vcK P b203_7 k e w := rfl
abbrev b203_8 : X := (.seq (.cond (.t 16) .skip (.exit 0)) t203_7)
def t203_8 := b203_8
theorem u203_8 : vcK P t203_8 k e w = vcK P b203_8 k e w := rfl
abbrev b203_9 : X := (.seq (.reg [0, 4, 13, 14, 15, 16] (.c (.q 16 [] (.bin .lss (.t 15) (.t 14))) .nil)) t203_8)
def t203_9 := b203_9
theorem u203_9 : vcK P t203_9 k e w = vcK P b203_9 k e w := rfl
abbrev b203_10 : X := (.blk 0 (.loop [4, 15] [0, 13, 14] t203_9))
def t203_10 := b203_10
theorem u203_10 : vcK P t203_10 k e w = vcK P b203_10 k e w := rfl
abbrev b203_11 : X := (.seq (.reg [2, 3] (.c (.q 40 [] (.mv (.t 4))) (.c (.q 2 [] (.mv (.t 40))) (.c (.q 3 [] (.mv (.c (.bool true)))) .nil)))) .ret)
def t203_11 := b203_11
theorem u203_11 : vcK P t203_11 k e w = vcK P b203_11 k e w := rfl
abbrev b203_12 : X := (.seq (.seq (.reg [0, 4, 13, 14, 15] (.c (.q 13 [] (.mv (.t 0))) (.c (.q 14 [] (.lens (.t 13))) (.c (.q 15 [] (.mv (.c (.int .i64 0)))) .nil)))) t203_10) t203_11)
def t203_12 := b203_12
theorem u203_12 : vcK P t203_12 k e w = vcK P b203_12 k e w := rfl
abbrev b203_13 : X := (.seq (.reg [0, 4] (.c (.e (some 12) [] (.bsl 9 1 [])) (.c (.q 4 [] (.mv (.t 12))) .nil))) t203_12)
def t203_13 := b203_13
theorem u203_13 : vcK P t203_13 k e w = vcK P b203_13 k e w := rfl
abbrev b203_14 : X := (.seq (.seq (.reg [0, 11] (.c (.q 9 [] (.mv (.t 0))) (.c (.q 10 [] (.lens (.t 9))) (.c (.q 11 [] (.bin .lss (.t 10) (.c (.int .i64 2)))) .nil)))) t203_1) t203_13)
def t203_14 := b203_14
theorem u203_14 : vcK P t203_14 k e w = vcK P b203_14 k e w := rfl
abbrev b203_0 : X := (.seq (.reg [0] (.c (.q 2 [] (.mv (.c (.slice none 0 0)))) (.c (.q 3 [] (.mv (.c (.bool false)))) .nil))) t203_14)
def x_ichangesIn := b203_0
theorem u203_0 : vcK P x_ichangesIn k e w = vcK P b203_0 k e w := rfl
def r_ichangesIn : List XO := [(.mv (.t 2)), (.mv (.t 3))]
theorem c_ichangesIn : convF Try.prog [147, 148, 152, 160, 162, 163, 170, 178, 206, 208, 210, 224, 233, 235, 236, 251, 264, 265, 268, 270, 287, 322] Try.f203 [([0], []), ([0, 11], []), ([2, 3], []), ([0, 4], []), ([0, 4, 13, 14, 15], []), ([4, 15], [0, 13, 14]), ([0, 4, 13, 14, 15, 16], []), ([0, 4, 5, 6, 13, 14, 15], []), ([0, 4, 7, 8, 13, 14, 15], []), ([0, 4, 7, 13, 14, 15, 34], []), ([2, 3], []), ([0, 4, 13, 14, 15], []), ([0, 4, 13, 14, 15], []), ([2, 3], [])] = some (x_ichangesIn, r_ichangesIn) := by kernel_rfl
def us_ichangesIn :=  (aI (aI (aI @u203_0 (aI @u203_1 @u203_2)) (aI (aI @u203_3 @u203_4) (aI @u203_5 @u203_6))) (aI (aI (aI @u203_7 @u203_8) (aI @u203_9 @u203_10)) (aI (aI @u203_11 @u203_12) (aI @u203_13 @u203_14))))
abbrev b79_1 : X := (.cond (.t 8) (.seq (.reg [2, 3] (.c (.q 2 [] (.mv (.c (.bool false)))) (.c (.q 3 [] (.mv (.c (.bool false)))) .nil))) .ret) .skip)
def t79_1 := b79_1
theorem u79_1 : vcK P t79_1 k e w = vcK P b79_1 k e w := rfl
abbrev b79_2 : X := (.seq (.reg [2, 3] (.c (.q 14 [] (.mv (.t 5))) (.c (.q 2 [] (.mv (.t 14))) (.c (.q 3 [] (.mv (.c (.bool true)))) .nil)))) .ret)
def t79_2 := b79_2
theorem u79_2 : vcK P t79_2 k e w = vcK P b79_2 k e w := rfl
abbrev b79_3 : X := (.seq (.reg [5] (.c (.q 10 [] (.mv (.t 0))) (.c (.e (some 11) [] (.call false 203 [(.t 10)])) (.c (.q 9 [] (.mv (.t 11))) (.c (.q 12 [] (.ext 0 (.t 9))) (.c (.q 13 [] (.ext 1 (.t 9))) (.c (.q 4 [] (.mv (.t 12))) (.c (.q 5 [] (.mv (.t 13))) .nil)))))))) t79_2)
def t79_3 := b79_3
theorem u79_3 : vcK P t79_3 k e w = vcK P b79_3 k e w := rfl
abbrev b79_4 : X := (.seq (.seq (.reg [0, 8] (.c (.q 6 [] (.mv (.t 0))) (.c (.e (some 7) [] (.call false 115 [(.t 6)])) (.c (.q 8 [] (.not (.t 7))) .nil)))) t79_1) t79_3)
def t79_4 := b79_4
theorem u79_4 : vcK P t79_4 k e w = vcK P b79_4 k e w := rfl
abbrev b79_0 : X := (.seq (.reg [0] (.c (.q 2 [] (.mv (.c (.bool false)))) (.c (.q 3 [] (.mv (.c (.bool false)))) .nil))) t79_4)
def x_iAreNext := b79_0
theorem u79_0 : vcK P x_iAreNext k e w = vcK P b79_0 k e w := rfl
def r_iAreNext : List XO := [(.mv (.t 2)), (.mv (.t 3))]
theorem c_iAreNext : convF Try.prog [147, 148, 152, 160, 162, 163, 170, 178, 206, 208, 210, 224, 233, 235, 236, 251, 264, 265, 268, 270, 287, 322] Try.f79 [([0], []), ([0, 8], []), ([2, 3], []), ([5], []), ([2, 3], [])] = some (x_iAreNext, r_iAreNext) := by kernel_rfl
def us_iAreNext :=  (aI (aI @u79_0 @u79_1) (aI @u79_2 (aI @u79_3 @u79_4)))
abbrev b81_1 : X := (.cond (.t 6) (.seq (.reg [2, 3] (.c (.q 2 [] (.mv (.c (.slice none 0 0)))) (.c (.q 3 [] (.mv (.c (.bool false)))) .nil))) .ret) .skip)
def t81_1 := b81_1
theorem u81_1 : vcK P t81_1 k e w = vcK P b81_1 k e w := rfl
abbrev b81_2 : X := (.seq (.reg [2, 3] (.c (.q 7 [] (.mv (.t 0))) (.c (.e (some 8) [] (.call false 203 [(.t 7)])) (.c (.q 9 [] (.ext 0 (.t 8))) (.c (.q 10 [] (.ext 1 (.t 8))) (.c (.q 2 [] (.mv (.t 9))) (.c (.q 3 [] (.mv (.t 10))) .nil))))))) .ret)
def t81_2 := b81_2
theorem u81_2 : vcK P t81_2 k e w = vcK P b81_2 k e w := rfl
abbrev b81_3 : X := (.seq (.seq (.reg [0, 6] (.c (.q 4 [] (.mv (.t 0))) (.c (.e (some 5) [] (.call false 115 [(.t 4)])) (.c (.q 6 [] (.not (.t 5))) .nil)))) t81_1) t81_2)
def t81_3 := b81_3
theorem u81_3 : vcK P t81_3 k e w = vcK P b81_3 k e w := rfl
abbrev b81_0 : X := (.seq (.reg [0] (.c (.q 2 [] (.mv (.c (.slice none 0 0)))) (.c (.q 3 [] (.mv (.c (.bool false)))) .nil))) t81_3)
def x_iChangesIn := b81_0
theorem u81_0 : vcK P x_iChangesIn k e w = vcK P b81_0 k e w := rfl
def r_iChangesIn : List XO := [(.mv (.t 2)), (.mv (.t 3))]
theorem c_iChangesIn : convF Try.prog [147, 148, 152, 160, 162, 163, 170, 178, 206, 208, 210, 224, 233, 235, 236, 251, 264, 265, 268, 270, 287, 322] Try.f81 [([0], []), ([0, 6], []), ([2, 3], []), ([2, 3], [])] = some (x_iChangesIn, r_iChangesIn) := by kernel_rfl
def us_iChangesIn :=  (aI (aI @u81_0 @u81_1) (aI @u81_2 @u81_3))
abbrev b204_1 : X := (.cond (.t 30) (.seq (.reg [2, 3] (.c (.q 2 [] (.mv (.c (.slice none 0 0)))) (.c (.q 3 [] (.mv (.c (.bool false)))) .nil))) .ret) .skip)
def t204_1 := b204_1
theorem u204_1 : vcK P t204_1 k e w = vcK P b204_1 k e w := rfl
abbrev b204_2 : X := (.reg [0, 4, 9, 10, 11] (.c (.q 31 [] (.mv (.t 4))) (.c (.q 32 [] (.mv (.t 7))) (.c (.e (some 33) [] (.bsl 9 1 [(.t 32)])) (.c (.e (some 34) [] (.app 24 9 1 16 [(S [])] 24 (.t 31) (.t 33))) (.c (.q 4 [] (.mv (.t 34))) .nil))))))
def t204_2 := b204_2
theorem u204_2 : vcK P t204_2 k e w = vcK P b204_2 k e w := rfl
abbrev b204_3 : X := (.seq (.seq (.reg [0, 4, 7, 9, 10, 11, 30] (.c (.q 29 [] (.mv (.t 8))) (.c (.q 30 [] (.not (.t 29))) .nil))) t204_1) t204_2)
def t204_3 := b204_3
theorem u204_3 : vcK P t204_3 k e w = vcK P b204_3 k e w := rfl
abbrev b204_4 : X := (.seq (.reg [0, 4, 7, 8, 9, 10, 11] (.c (.q 17 [] (.mv (.t 6))) (.c (.q 18 [] (.mv (.t 0))) (.c (.q 19 [] (.mv (.t 5))) (.c (.q 20 [] (.bin .add (.t 19) (.c (.int .i64 1)))) (.c (.q 21 [] (.mv (.t 0))) (.c (.q 22 [] (.lens (.t 21))) (.c (.q 23 [] (.bin .rem (.t 20) (.t 22))) (.c (.q 24 [] (.ia 1 (.t 18) (.t 23))) (.c (.q 25 [] (.ld (.t 24))) (.c (.e (some 26) [] (.call false 88 [(.t 17), (.t 25)])) (.c (.q 16 [] (.mv (.t 26))) (.c (.q 27 [] (.ext 0 (.t 16))) (.c (.q 28 [] (.ext 1 (.t 16))) (.c (.q 7 [] (.mv (.t 27))) (.c (.q 8 [] (.mv (.t 28))) .nil)))))))))))))))) t204_3)
def t204_4 := b204_4
theorem u204_4 : vcK P t204_4 k e w = vcK P b204_4 k e w := rfl
abbrev b204_5 : X := (.reg [0, 4, 9, 10, 11] (.c (.q 35 [] (.bin .add (.t 11) (.c (.int .i64 1)))) (.c (.q 11 [] (.mv (.t 35))) .nil)))
def t204_5 := b204_5
theorem u204_5 : vcK P t204_5 k e w = vcK P b204_5 k e w := rfl
abbrev b204_6 : X := (.seq (.blk 1 (.seq (.reg [0, 4, 5, 6, 9, 10, 11] (.c (.q 13 [] (.mv (.t 11))) (.c (.q 14 [] (.ia 1 (.t 9) (.t 11))) (.c (.q 15 [] (.ld (.t 14))) (.c (.q 5 [] (.mv (.t 13))) (.c (.q 6 [] (.mv (.t 15))) .nil)))))) t204_4)) t204_5)
def t204_6 := b204_6
theorem u204_6 : vcK P t204_6 k e w = vcK P b204_6 k e w := rfl
abbrev b204_7 : X := (.seq (.cond (.t 12) .skip (.exit 0)) t204_6)
def t204_7 := b204_7
theorem u204_7 : vcK P t204_7 k e w = vcK P b204_7 k e w := rfl
abbrev b204_8 : X := (.seq (.reg [0, 4, 9, 10, 11, 12] (.c (.q 12 [] (.bin .lss (.t 11) (.t 10))) .nil)) t204_7)
def t204_8 := b204_8
theorem u204_8 : vcK P t204_8 k e w = vcK P b204_8 k e w := rfl
abbrev b204_9 : X := (.blk 0 (.loop [4, 11] [0, 9, 10] t204_8))
def t204_9 := b204_9
theorem u204_9 : vcK P t204_9 k e w = vcK P b204_9 k e w := rfl
abbrev b204_10 : X := (.seq (.reg [2, 3] (.c (.q 36 [] (.mv (.t 4))) (.c (.q 37 [] (.mv (.t 0))) (.c (.q 38 [] (.lens (.t 37))) (.c (.q 39 [] (.bin .gtr (.t 38) (.c (.int .i64 0)))) (.c (.q 2 [] (.mv (.t 36))) (.c (.q 3 [] (.mv (.t 39))) .nil))))))) .ret)
def t204_10 := b204_10
theorem u204_10 : vcK P t204_10 k e w = vcK P b204_10 k e w := rfl
abbrev b204_11 : X := (.seq (.seq (.reg [0, 4, 9, 10, 11] (.c (.q 9 [] (.mv (.t 0))) (.c (.q 10 [] (.lens (.t 9))) (.c (.q 11 [] (.mv (.c (.int .i64 0)))) .nil)))) t204_9) t204_10)
def t204_11 := b204_11
theorem u204_11 : vcK P t204_11 k e w = vcK P b204_11 k e w := rfl
abbrev b204_12 : X := (.seq (.reg [0, 4] (.c (.q 4 [] (.mv (.c (.slice none 0 0)))) .nil)) t204_11)
def t204_12 := b204_12
theorem u204_12 : vcK P t204_12 k e w = vcK P b204_12 k e w := rfl
abbrev b204_0 : X := (.seq (.reg [0] (.c (.q 2 [] (.mv (.c (.slice none 0 0)))) (.c (.q 3 [] (.mv (.c (.bool false)))) .nil))) t204_12)
def x_sl7Changes := b204_0
theorem u204_0 : vcK P x_sl7Changes k e w = vcK P b204_0 k e w := rfl
def r_sl7Changes : List XO := [(.mv (.t 2)), (.mv (.t 3))]
theorem c_sl7Changes : convF Try.prog [147, 148, 152, 160, 162, 163, 170, 178, 206, 208, 210, 224, 233, 235, 236, 251, 264, 265, 268, 270, 287, 322] Try.f204 [([0], []), ([0, 4], []), ([0, 4, 9, 10, 11], []), ([4, 11], [0, 9, 10]), ([0, 4, 9, 10, 11, 12], []), ([0, 4, 5, 6, 9, 10, 11], []), ([0, 4, 7, 8, 9, 10, 11], []), ([0, 4, 7, 9, 10, 11, 30], []), ([2, 3], []), ([0, 4, 9, 10, 11], []), ([0, 4, 9, 10, 11], []), ([2, 3], [])] = some (x_sl7Changes, r_sl7Changes) := by kernel_rfl
def us_sl7Changes :=  (aI (aI (aI @u204_0 (aI @u204_1 @u204_2)) (aI @u204_3 (aI @u204_4 @u204_5))) (aI (aI @u204_6 (aI @u204_7 @u204_8)) (aI (aI @u204_9 @u204_10) (aI @u204_11 @u204_12))))
abbrev b80_1 : X := (.cond (.t 8) (.seq (.reg [2, 3] (.c (.q 2 [] (.mv (.c (.bool false)))) (.c (.q 3 [] (.mv (.c (.bool false)))) .nil))) .ret) .skip)
def t80_1 := b80_1
theorem u80_1 : vcK P t80_1 k e w = vcK P b80_1 k e w := rfl
abbrev b80_2 : X := (.seq (.reg [2, 3] (.c (.q 14 [] (.mv (.t 5))) (.c (.q 2 [] (.mv (.t 14))) (.c (.q 3 [] (.mv (.c (.bool true)))) .nil)))) .ret)
def t80_2 := b80_2
theorem u80_2 : vcK P t80_2 k e w = vcK P b80_2 k e w := rfl
abbrev b80_3 : X := (.seq (.reg [5] (.c (.q 10 [] (.mv (.t 0))) (.c (.e (some 11) [] (.call false 204 [(.t 10)])) (.c (.q 9 [] (.mv (.t 11))) (.c (.q 12 [] (.ext 0 (.t 9))) (.c (.q 13 [] (.ext 1 (.t 9))) (.c (.q 4 [] (.mv (.t 12))) (.c (.q 5 [] (.mv (.t 13))) .nil)))))))) t80_2)
def t80_3 := b80_3
theorem u80_3 : vcK P t80_3 k e w = vcK P b80_3 k e w := rfl
abbrev b80_4 : X := (.seq (.seq (.reg [0, 8] (.c (.q 6 [] (.mv (.t 0))) (.c (.e (some 7) [] (.call false 172 [(.t 6)])) (.c (.q 8 [] (.not (.t 7))) .nil)))) t80_1) t80_3)
def t80_4 := b80_4
theorem u80_4 : vcK P t80_4 k e w = vcK P b80_4 k e w := rfl
abbrev b80_0 : X := (.seq (.reg [0] (.c (.q 2 [] (.mv (.c (.bool false)))) (.c (.q 3 [] (.mv (.c (.bool false)))) .nil))) t80_4)
def x_sAreNext := b80_0
theorem u80_0 : vcK P x_sAreNext k e w = vcK P b80_0 k e w := rfl
def r_sAreNext : List XO := [(.mv (.t 2)), (.mv (.t 3))]
theorem c_sAreNext : convF Try.prog [147, 148, 152, 160, 162, 163, 170, 178, 206, 208, 210, 224, 233, 235, 236, 251, 264, 265, 268, 270, 287, 322] Try.f80 [([0], []), ([0, 8], []), ([2, 3], []), ([5], []), ([2, 3], [])] = some (x_sAreNext, r_sAreNext) := by kernel_rfl
def us_sAreNext :=  (aI (aI @u80_0 @u80_1) (aI @u80_2 (aI @u80_3 @u80_4)))
abbrev b82_1 : X := (.cond (.t 6) (.seq (.reg [2, 3] (.c (.q 2 [] (.mv (.c (.slice none 0 0)))) (.c (.q 3 [] (.mv (.c (.bool false)))) .nil))) .ret) .skip)
def t82_1 := b82_1
theorem u82_1 : vcK P t82_1 k e w = vcK P b82_1 k e w := rfl
abbrev b82_2 : X := (.seq (.reg [2, 3] (.c (.q 7 [] (.mv (.t 0))) (.c (.e (some 8) [] (.call false 204 [(.t 7)])) (.c (.q 9 [] (.ext 0 (.t 8))) (.c (.q 10 [] (.ext 1 (.t 8))) (.c (.q 2 [] (.mv (.t 9))) (.c (.q 3 [] (.mv (.t 10))) .nil))))))) .ret)
def t82_2 := b82_2
theorem u82_2 : vcK P t82_2 k e w = vcK P b82_2 k e w := rfl
abbrev b82_3 : X := (.seq (.seq (.reg [0, 6] (.c (.q 4 [] (.mv (.t 0))) (.c (.e (some 5) [] (.call false 172 [(.t 4)])) (.c (.q 6 [] (.not (.t 5))) .nil)))) t82_1) t82_2)
def t82_3 := b82_3
theorem u82_3 : vcK P t82_3 k e w = vcK P b82_3 k e w := rfl
abbrev b82_0 : X := (.seq (.reg [0] (.c (.q 2 [] (.mv (.c (.slice none 0 0)))) (.c (.q 3 [] (.mv (.c (.bool false)))) .nil))) t82_3)
def x_sChangesIn := b82_0
theorem u82_0 : vcK P x_sChangesIn k e w = vcK P b82_0 k e w := rfl
def r_sChangesIn : List XO := [(.mv (.t 2)), (.mv (.t 3))]
theorem c_sChangesIn : convF Try.prog [147, 148, 152, 160, 162, 163, 170, 178, 206, 208, 210, 224, 233, 235, 236, 251, 264, 265, 268, 270, 287, 322] Try.f82 [([0], []), ([0, 6], []), ([2, 3], []), ([2, 3], [])] = some (x_sChangesIn, r_sChangesIn) := by kernel_rfl
def us_sChangesIn :=  (aI (aI @u82_0 @u82_1) (aI @u82_2 @u82_3))
end

/-! ### how often each row occurs -/
def oftenL (l : List Bs) (m k : Nat) : Nat := ((l.take m).filter fun r => decide (rankL r = k)).length
theorem often_succ (l : List Bs) (m k : Nat) (h : m < l.length) : oftenL l (m + 1) k = oftenL l m k + if rankL (l.getD m []) = k then 1 else 0 := by
  rw [oftenL, List.take_add_one, List.getElem?_eq_getElem h, List.filter_append, List.length_append, List.getD_eq_getElem?_getD, List.getElem?_eq_getElem h]
  congr 1
  show (List.filter _ [l[m]]).length = if rankL l[m] = k then 1 else 0
  by_cases e : rankL l[m] = k
  · rw [if_pos e, List.filter_cons_of_pos (by simpa using e)]; rfl
  · rw [if_neg e, List.filter_cons_of_neg (by simpa using e)]; rfl
def oftL (l : List Bs) (f m : Nat) : List Int := (List.range f).map fun k => (oftenL l m k : Int)
theorem oftL_len (l : List Bs) (f m : Nat) : (oftL l f m).length = f := by simp [oftL]
theorem oftL_zero (l : List Bs) (f : Nat) : oftL l f 0 = List.replicate f 0 := by
  refine ext_getD (d := 0) (by simp [oftL]) fun i hi => ?_
  rw [oftL_len] at hi
  simp [oftL, oftenL, List.getD_eq_getElem?_getD, hi, List.getElem?_replicate]
theorem oftL_get (l : List Bs) (f m k : Nat) (hk : k < f) : (oftL l f m).getD k 0 = (oftenL l m k : Int) := by
  rw [oftL, List.getD_eq_getElem?_getD, List.getElem?_map, List.getElem?_range hk]; rfl
theorem oftL_succ (l : List Bs) (f m : Nat) (h : m < l.length) (hr : rankL (l.getD m []) < f) : oftL l f (m + 1) = (oftL l f m).set (rankL (l.getD m [])) (oftenL l m (rankL (l.getD m [])) + 1 : Int) := by
  refine ext_getD (d := 0) (by simp [oftL]) fun i hi => ?_
  rw [oftL_len] at hi
  rw [oftL_get _ _ _ _ hi, often_succ l m i h]
  generalize rankL (l.getD m []) = q at *
  by_cases e : q = i
  · subst e
    rw [if_pos rfl, List.getD_eq_getElem?_getD, List.getElem?_set_self (by rw [oftL_len]; exact hr)]; rfl
  · rw [if_neg e, List.getD_eq_getElem?_getD, List.getElem?_set_ne e, ← List.getD_eq_getElem?_getD, oftL_get _ _ _ _ hi]; rfl
/-- The counts add up to the list's length. -/
theorem often_sum (l : List Bs) (f : Nat) (hf : ∀ r ∈ l, rankL r < f) : ∀ m, m ≤ l.length → (oftL l f m).sum = (m : Int) := by
  intro m
  induction m with
  | zero => intro _; rw [oftL_zero]; simp
  | succ m ih =>
    intro hm
    have hr := hf _ (getD_mem [] (show m < l.length by omega))
    have hs : ∀ (L : List Int) (i : Nat) (x : Int), i < L.length → (L.set i (L.getD i 0 + x)).sum = L.sum + x := by
      intro L
      induction L with
      | nil => intro i x h; simp at h
      | cons a L ihL =>
        intro i x h
        cases i with
        | zero => simp only [List.set_cons_zero, List.getD_cons_zero, List.sum_cons]; omega
        | succ i =>
          simp only [List.set_cons_succ, List.getD_cons_succ, List.sum_cons]
          rw [ihL i x (by simpa using h)]; omega
    have := hs (oftL l f m) (rankL (l.getD m [])) 1 (by rw [oftL_len]; exact hr)
    rw [oftL_get _ _ _ _ hr, ih (by omega)] at this
    rw [oftL_succ l f m (by omega) hr, this]; omega
theorem irankOf_okl (l : List UInt8) (hl : l.length < 9) (w : World) : Fn 280 [S l] w (fun r _ => r = .int .i64 (rankL l : Nat)) := by
  (refine callsV_of mix Try.func280 c_irankOf ?_; simp only [↓vsd, vsn, gW, qd, qv, ev, pick, argE, zipE, ne_eq, eq_self, forall_const, implies_true, if_true, if_false, reduceIte, reduceCtorEq, Nat.reduceEqDiff, Nat.reduceAdd, Nat.reduceLT, ↓us_irankOf, r_irankOf])
  have hr := rankL_lt l
  have hf := factL_le l.length hl
  refine m_upto l.length (fun i vs w' => ∃ q : Nat, vs = [.int .i64 q, .int .i64 i] ∧ q + rankL (l.drop i) = rankL l ∧ Ext w w') ⟨0, rfl, by simp, Ext.refl _⟩ ?_
  rintro i vs w1 hi ⟨q, rfl, hq, hx1⟩
  by_cases hlt : i < l.length
  · have hltI : (i : Int) < l.length := by omega
    have hltJ : ¬ (l.length : Int) ≤ i := by omega
    simp only [↓vsd, vsn, gW, qd, qv, ev, pick, argE, zipE, ne_eq, eq_self, forall_const, implies_true, if_true, if_false, reduceIte, reduceCtorEq, Nat.reduceEqDiff, Nat.reduceAdd, Nat.reduceLT, ↓us_irankOf, r_irankOf, hltI, hltJ]
    refine ⟨inR_i64 (by omega), ?_⟩
    refine m_upto (l.length - (i + 1)) (fun j vs w' => ∃ q2 : Nat, vs = [.int .i64 q2, .int .i64 (i + 1 + j : Nat)] ∧ q2 + ((l.drop (i + 1 + j)).filter fun y => decide (y.toNat < (l.getD i 0).toNat)).length = ((l.drop (i + 1)).filter fun y => decide (y.toNat < (l.getD i 0).toNat)).length ∧ Ext w w') ⟨0, rfl, by simp, hx1⟩ ?_
    rintro j vs w2 hj ⟨q2, rfl, hq2, hx2⟩
    have hle : ((l.drop (i + 1)).filter fun y => decide (y.toNat < (l.getD i 0).toNat)).length ≤ 8 := by
      have := List.length_filter_le (fun y : UInt8 => decide (y.toNat < (l.getD i 0).toNat)) (l.drop (i + 1))
      rw [List.length_drop] at this; omega
    by_cases hlj : i + 1 + j < l.length
    · have hljI : ((i + 1 + j : Nat) : Int) < l.length := by omega
      have hljJ : ¬ (l.length : Int) ≤ (i + 1 + j : Nat) := by omega
      rw [drop_consB l _ hlj, List.filter_cons] at hq2
      simp only [↓vsd, vsn, gW, qd, qv, ev, pick, argE, zipE, ne_eq, eq_self, forall_const, implies_true, if_true, if_false, reduceIte, reduceCtorEq, Nat.reduceEqDiff, Nat.reduceAdd, Nat.reduceLT, ↓us_irankOf, r_irankOf, hljI, hljJ]
      refine ⟨by omega, by omega, fun hlo => ⟨inR_i64 (by omega), inR_i64 (by omega), UpTo.next (by omega) ⟨q2 + 1, by first | rfl | (simp; omega), ?_, by first | exact hx2 | exact dr hx2⟩⟩, fun hhi => ⟨inR_i64 (by omega), UpTo.next (by omega) ⟨q2, by first | rfl | (simp; omega), ?_, by first | exact hx2 | exact dr hx2⟩⟩⟩
      · rw [if_pos (decide_eq_true (by omega)), List.length_cons] at hq2
        rw [← hq2, show i + 1 + (j + 1) = i + 1 + j + 1 by omega]; omega
      · rw [if_neg (by rw [decide_eq_false (by omega)]; exact Bool.false_ne_true)] at hq2
        rw [← hq2, show i + 1 + (j + 1) = i + 1 + j + 1 by omega]
    · have hljI : ¬ ((i + 1 + j : Nat) : Int) < l.length := by omega
      have hd : l.drop (i + 1 + j) = [] := List.drop_eq_nil_of_le (by omega)
      rw [hd] at hq2
      simp only [List.filter_nil, List.length_nil, Nat.add_zero] at hq2
      have eI : (l.length : Int) - 1 - (i : Nat) = (l.length - 1 - i : Nat) := by omega
      simp only [↓vsd, vsn, gW, qd, qv, ev, pick, argE, zipE, ne_eq, eq_self, forall_const, implies_true, if_true, if_false, reduceIte, reduceCtorEq, Nat.reduceEqDiff, Nat.reduceAdd, Nat.reduceLT, ↓us_irankOf, r_irankOf, hljI, eI]
      refine ⟨inR_i64 (by omega), inR_i64 (by omega), m_call (ifactorial_ok (l.length - 1 - i) (by omega) _) ?_⟩
      rintro _ w3 hx3 rfl
      rw [drop_consB l i hlt, rankL, List.length_drop, ← hq2, show l.length - (i + 1) = l.length - 1 - i by omega] at hq
      have hfi := factL_le (l.length - 1 - i) (by omega)
      have eM : (q2 : Int) * ((factL (l.length - 1 - i) : Nat) : Int) = (q2 * factL (l.length - 1 - i) : Nat) := by simp
      generalize hM : q2 * factL (l.length - 1 - i) = M at *
      simp only [↓vsd, vsn, gW, qd, qv, ev, pick, argE, zipE, ne_eq, eq_self, forall_const, implies_true, if_true, if_false, reduceIte, reduceCtorEq, Nat.reduceEqDiff, Nat.reduceAdd, Nat.reduceLT, ↓us_irankOf, r_irankOf, eM]
      exact ⟨inR_i64 (by omega), inR_i64 (by omega), inR_i64 (by omega), UpTo.next hlt ⟨q + M, by first | rfl | (simp; omega), by omega, by first | exact hx2.trans hx3 | exact hx2.trans (ud hx3) | exact dr (hx2.trans hx3)⟩⟩
  · obtain rfl : i = l.length := by omega
    have hltI : ¬ (l.length : Int) < l.length := by omega
    simp only [↓vsd, vsn, gW, qd, qv, ev, pick, argE, zipE, ne_eq, eq_self, forall_const, implies_true, if_true, if_false, reduceIte, reduceCtorEq, Nat.reduceEqDiff, Nat.reduceAdd, Nat.reduceLT, ↓us_irankOf, r_irankOf, hltI]
    rw [List.drop_length] at hq
    exact ⟨hx1, by rw [← hq]; rfl⟩
theorem take_snocL {l : List Bs} {k : Nat} (h : k < l.length) : l.take (k + 1) = l.take k ++ [l.getD k []] := by
  rw [List.take_add_one, List.getElem?_eq_getElem h, List.getD_eq_getElem?_getD, List.getElem?_eq_getElem h]; rfl
def stgV (l : List Bs) : Nat := (l.getD 0 []).length
/-- A list of rows of a small stage. -/
def SmallR (l : List Bs) : Prop := IsRows l ∧ 0 < l.length ∧ stgV l ≤ 6
instance (l : List Bs) : Decidable (SmallR l) := by unfold SmallR IsRows; infer_instance
theorem SmallR.stage {l : List Bs} (h : SmallR l) : 3 ≤ stgV l ∧ stgV l ≤ 6 := ⟨(h.1.1 _ (getD_mem [] h.2.1)).1.1.1, h.2.2⟩
theorem SmallR.rank {l : List Bs} (h : SmallR l) : ∀ r ∈ l, rankL r < factL (stgV l) := fun r hr => by
  have := rankL_lt r
  rwa [(h.1.1 r hr).2] at this
theorem fact720 : ∀ n < 7, factL n ≤ 720 := by decide
def oftV (l : List Bs) : List Int := oftL l (factL (stgV l)) l.length
theorem oft_le (l : List Bs) (m k : Nat) : oftenL l m k ≤ l.length := by
  refine Nat.le_trans (List.length_filter_le _ _) ?_
  rw [List.length_take]; omega
theorem icountable_ok (v : Value) (l : List Bs) (hl : l.length ≤ 1000000000) (w : World) (h : Sq fS 1 w v l) : Fn 195 [v] w (fun r _ => r = .bool (decide (SmallR l))) := by
  (refine callsV_of mix Try.func195 c_icountable ?_; simp only [↓vsd, vsn, gW, qd, qv, ev, pick, argE, zipE, ne_eq, eq_self, forall_const, implies_true, if_true, if_false, reduceIte, reduceCtorEq, Nat.reduceEqDiff, Nat.reduceAdd, Nat.reduceLT, ↓us_icountable, r_icountable])
  refine m_call (iGoodRows_ok v l hl _ h) ?_
  rintro _ w1 hx1 rfl
  have hq1 := h.ext hx1
  by_cases hr : IsRows l
  · by_cases h0 : 0 < l.length
    · have h0I : (0 : Int) < l.length := by omega
      have a1 := hq1.at0 [] h0
      by_cases hs : stgV l ≤ 6
      · have hsI : ((l.getD 0 []).length : Int) ≤ 6 := by unfold stgV at hs; omega
        simp only [↓vsd, vsn, gW, qd, qv, ev, pick, argE, zipE, ne_eq, eq_self, forall_const, implies_true, if_true, if_false, reduceIte, reduceCtorEq, Nat.reduceEqDiff, Nat.reduceAdd, Nat.reduceLT, ↓us_icountable, r_icountable, hr, hq1.facts, h0I, a1, hsI]
        exact ⟨by omega, hx1, (decide_eq_true ⟨hr, h0, hs⟩).symm⟩
      · have hsI : ¬ ((l.getD 0 []).length : Int) ≤ 6 := by unfold stgV at hs; omega
        simp only [↓vsd, vsn, gW, qd, qv, ev, pick, argE, zipE, ne_eq, eq_self, forall_const, implies_true, if_true, if_false, reduceIte, reduceCtorEq, Nat.reduceEqDiff, Nat.reduceAdd, Nat.reduceLT, ↓us_icountable, r_icountable, hr, hq1.facts, h0I, a1, hsI]
        exact ⟨by omega, hx1, (decide_eq_false fun hh => hs hh.2.2).symm⟩
    · have h0I : ¬ (0 : Int) < l.length := by omega
      simp only [↓vsd, vsn, gW, qd, qv, ev, pick, argE, zipE, ne_eq, eq_self, forall_const, implies_true, if_true, if_false, reduceIte, reduceCtorEq, Nat.reduceEqDiff, Nat.reduceAdd, Nat.reduceLT, ↓us_icountable, r_icountable, hr, hq1.facts, h0I]
      exact ⟨hx1, (decide_eq_false fun hh => h0 hh.2.1).symm⟩
  · simp only [↓vsd, vsn, gW, qd, qv, ev, pick, argE, zipE, ne_eq, eq_self, forall_const, implies_true, if_true, if_false, reduceIte, reduceCtorEq, Nat.reduceEqDiff, Nat.reduceAdd, Nat.reduceLT, ↓us_icountable, r_icountable, hr]
    exact ⟨hx1, (decide_eq_false fun hh => hr hh.1).symm⟩
theorem sl7Small_ok (v : Value) (l : List Bs) (hl : l.length ≤ 1000000000) (w : World) (h : Sq fS 1 w v l) : Fn 199 [v] w (fun r _ => r = .bool (decide (SmallR l))) := by
  (refine callsV_of mix Try.func199 c_sl7Small ?_; simp only [↓vsd, vsn, gW, qd, qv, ev, pick, argE, zipE, ne_eq, eq_self, forall_const, implies_true, if_true, if_false, reduceIte, reduceCtorEq, Nat.reduceEqDiff, Nat.reduceAdd, Nat.reduceLT, ↓us_sl7Small, r_sl7Small])
  refine m_call (sl6Rows_ok v l hl _ h) ?_
  rintro _ w1 hx1 rfl
  have hq1 := h.ext hx1
  by_cases hr : IsRows l
  · by_cases h0 : 0 < l.length
    · have h0I : (0 : Int) < l.length := by omega
      have a1 := hq1.at0 [] h0
      by_cases hs : stgV l ≤ 6
      · have hsI : ((l.getD 0 []).length : Int) ≤ 6 := by unfold stgV at hs; omega
        simp only [↓vsd, vsn, gW, qd, qv, ev, pick, argE, zipE, ne_eq, eq_self, forall_const, implies_true, if_true, if_false, reduceIte, reduceCtorEq, Nat.reduceEqDiff, Nat.reduceAdd, Nat.reduceLT, ↓us_sl7Small, r_sl7Small, hr, hq1.facts, h0I, a1, hsI]
        exact ⟨by omega, hx1, (decide_eq_true ⟨hr, h0, hs⟩).symm⟩
      · have hsI : ¬ ((l.getD 0 []).length : Int) ≤ 6 := by unfold stgV at hs; omega
        simp only [↓vsd, vsn, gW, qd, qv, ev, pick, argE, zipE, ne_eq, eq_self, forall_const, implies_true, if_true, if_false, reduceIte, reduceCtorEq, Nat.reduceEqDiff, Nat.reduceAdd, Nat.reduceLT, ↓us_sl7Small, r_sl7Small, hr, hq1.facts, h0I, a1, hsI]
        exact ⟨by omega, hx1, (decide_eq_false fun hh => hs hh.2.2).symm⟩
    · have h0I : ¬ (0 : Int) < l.length := by omega
      simp only [↓vsd, vsn, gW, qd, qv, ev, pick, argE, zipE, ne_eq, eq_self, forall_const, implies_true, if_true, if_false, reduceIte, reduceCtorEq, Nat.reduceEqDiff, Nat.reduceAdd, Nat.reduceLT, ↓us_sl7Small, r_sl7Small, hr, hq1.facts, h0I]
      exact ⟨hx1, (decide_eq_false fun hh => h0 hh.2.1).symm⟩
  · simp only [↓vsd, vsn, gW, qd, qv, ev, pick, argE, zipE, ne_eq, eq_self, forall_const, implies_true, if_true, if_false, reduceIte, reduceCtorEq, Nat.reduceEqDiff, Nat.reduceAdd, Nat.reduceLT, ↓us_sl7Small, r_sl7Small, hr]
    exact ⟨hx1, (decide_eq_false fun hh => hr hh.1).symm⟩
theorem icounts_ok (v : Value) (l : List Bs) (hs : SmallR l) (w : World) (h : Sq fS 1 w v l) : Fn 196 [v] w (fun r w' => Own fI 1 3 w.heap.size w' r (oftV l)) := by
  have h36 := hs.stage
  have hf := fact720 (stgV l) (by omega)
  have h0 := hs.2.1
  have a0 := h.at0 [] h0
  (refine callsV_of mix Try.func196 c_icounts ?_; simp only [↓vsd, vsn, gW, qd, qv, ev, pick, argE, zipE, ne_eq, eq_self, forall_const, implies_true, if_true, if_false, reduceIte, reduceCtorEq, Nat.reduceEqDiff, Nat.reduceAdd, Nat.reduceLT, ↓us_icounts, r_icounts])
  simp only [↓vsd, vsn, gW, qd, qv, ev, pick, argE, zipE, ne_eq, eq_self, forall_const, implies_true, if_true, if_false, reduceIte, reduceCtorEq, Nat.reduceEqDiff, Nat.reduceAdd, Nat.reduceLT, ↓us_icounts, r_icounts, h.facts, a0]
  refine ⟨by omega, m_call (ifactorial_ok (stgV l) (by omega) _) ?_⟩
  rintro _ w1 hx1 rfl
  have hq1 := h.ext hx1
  simp only [↓vsd, vsn, gW, qd, qv, ev, pick, argE, zipE, ne_eq, eq_self, forall_const, implies_true, if_true, if_false, reduceIte, reduceCtorEq, Nat.reduceEqDiff, Nat.reduceAdd, Nat.reduceLT, ↓us_icounts, r_icounts]
  refine m_msl (B := w.heap.size) (0 : Int) fI_len rfl (by omega) (by decide) hx1.size ?_
  rintro z w2 hz2 hzb hx2
  have hx12 := hx1.trans hx2
  have hq2 := h.ext hx12
  simp only [↓vsd, vsn, gW, qd, qv, ev, pick, argE, zipE, ne_eq, eq_self, forall_const, implies_true, if_true, if_false, reduceIte, reduceCtorEq, Nat.reduceEqDiff, Nat.reduceAdd, Nat.reduceLT, ↓us_icounts, r_icounts, hq2.facts]
  refine m_upto l.length (fun k vs w' => vs = [.int .i64 k] ∧ Own fI 1 3 w.heap.size w' z (oftL l (factL (stgV l)) k) ∧ Ext w w') ⟨rfl, by rw [oftL_zero]; exact hz2, hx12⟩ ?_
  rintro k vs w3 hk ⟨rfl, hz3, hx3⟩
  have hq3 := h.ext hx3
  by_cases hlt : k < l.length
  · have hltI : (k : Int) < l.length := by omega
    have hltJ : ¬ (l.length : Int) ≤ k := by omega
    have a3 := hq3.at1 [] hlt
    have hm := getD_mem [] hlt
    have hrk := hs.rank _ hm
    have hrl := hs.1.1 _ hm
    have hsu := oftL_succ l (factL (stgV l)) k hlt hrk
    have hol := oftL_len l (factL (stgV l)) k
    have hog := oftL_get l (factL (stgV l)) k _ hrk
    have hle := oft_le l k (rankL (l.getD k []))
    have hl8 := hs.1.2
    have hstg : (l.getD k []).length = stgV l := hrl.2
    generalize l.getD k [] = r at *
    simp only [↓vsd, vsn, gW, qd, qv, ev, pick, argE, zipE, ne_eq, eq_self, forall_const, implies_true, if_true, if_false, reduceIte, reduceCtorEq, Nat.reduceEqDiff, Nat.reduceAdd, Nat.reduceLT, ↓us_icounts, r_icounts, hltI, hltJ, hq3.facts, a3]
    refine ⟨by omega, m_call (irankOf_okl r (by omega) _) ?_⟩
    rintro _ w4 hx4 rfl
    have hx4 : Ext w3 w4 := by first | exact hx4 | exact ud hx4 | exact ud (ud hx4)
    have hz4 := hz3.ext hx4
    have a4 := hz4.sq.at1 0 (i := rankL r) (by omega)
    rw [hog] at a4
    simp only [↓vsd, vsn, gW, qd, qv, ev, pick, argE, zipE, ne_eq, eq_self, forall_const, implies_true, if_true, if_false, reduceIte, reduceCtorEq, Nat.reduceEqDiff, Nat.reduceAdd, Nat.reduceLT, ↓us_icounts, r_icounts, hz4.sq.facts, a4]
    refine ⟨by omega, inR_i64 (by omega), by omega, m_set1 (rankL r) ((oftenL l k (rankL r) : Int) + 1) hz4 rfl (by omega) rfl fI_one ?_⟩
    rintro w5 hz5 hg5 _
    have hx5 := hz4.grown (hx3.trans hx4) (Nat.le_refl _) hg5
    simp only [↓vsd, vsn, gW, qd, qv, ev, pick, argE, zipE, ne_eq, eq_self, forall_const, implies_true, if_true, if_false, reduceIte, reduceCtorEq, Nat.reduceEqDiff, Nat.reduceAdd, Nat.reduceLT, ↓us_icounts, r_icounts]
    exact ⟨inR_i64 (by omega), UpTo.next hlt ⟨rfl, by rw [hsu]; exact hz5, hx5⟩⟩
  · obtain rfl : k = l.length := by omega
    have hltI : ¬ (l.length : Int) < l.length := by omega
    simp only [↓vsd, vsn, gW, qd, qv, ev, pick, argE, zipE, ne_eq, eq_self, forall_const, implies_true, if_true, if_false, reduceIte, reduceCtorEq, Nat.reduceEqDiff, Nat.reduceAdd, Nat.reduceLT, ↓us_icounts, r_icounts, hltI]
    exact ⟨hx3, hz3⟩
theorem sl7Often_ok (v : Value) (l : List Bs) (hs : SmallR l) (w : World) (h : Sq fS 1 w v l) : Fn 200 [v] w (fun r w' => Own fI 1 3 w.heap.size w' r (oftV l)) := by
  have h36 := hs.stage
  have hf := fact720 (stgV l) (by omega)
  have h0 := hs.2.1
  have a0 := h.at0 [] h0
  (refine callsV_of mix Try.func200 c_sl7Often ?_; simp only [↓vsd, vsn, gW, qd, qv, ev, pick, argE, zipE, ne_eq, eq_self, forall_const, implies_true, if_true, if_false, reduceIte, reduceCtorEq, Nat.reduceEqDiff, Nat.reduceAdd, Nat.reduceLT, ↓us_sl7Often, r_sl7Often])
  simp only [↓vsd, vsn, gW, qd, qv, ev, pick, argE, zipE, ne_eq, eq_self, forall_const, implies_true, if_true, if_false, reduceIte, reduceCtorEq, Nat.reduceEqDiff, Nat.reduceAdd, Nat.reduceLT, ↓us_sl7Often, r_sl7Often, h.facts, a0]
  refine ⟨by omega, m_call (sl1Fact_ok (stgV l) (by omega) _) ?_⟩
  rintro _ w1 hx1 rfl
  have hq1 := h.ext hx1
  simp only [↓vsd, vsn, gW, qd, qv, ev, pick, argE, zipE, ne_eq, eq_self, forall_const, implies_true, if_true, if_false, reduceIte, reduceCtorEq, Nat.reduceEqDiff, Nat.reduceAdd, Nat.reduceLT, ↓us_sl7Often, r_sl7Often]
  refine m_msl (B := w.heap.size) (0 : Int) fI_len rfl (by omega) (by decide) hx1.size ?_
  rintro z w2 hz2 hzb hx2
  have hx12 := hx1.trans hx2
  have hq2 := h.ext hx12
  simp only [↓vsd, vsn, gW, qd, qv, ev, pick, argE, zipE, ne_eq, eq_self, forall_const, implies_true, if_true, if_false, reduceIte, reduceCtorEq, Nat.reduceEqDiff, Nat.reduceAdd, Nat.reduceLT, ↓us_sl7Often, r_sl7Often, hq2.facts]
  refine m_upto l.length (fun k vs w' => vs = [.int .i64 k] ∧ Own fI 1 3 w.heap.size w' z (oftL l (factL (stgV l)) k) ∧ Ext w w') ⟨rfl, by rw [oftL_zero]; exact hz2, hx12⟩ ?_
  rintro k vs w3 hk ⟨rfl, hz3, hx3⟩
  have hq3 := h.ext hx3
  by_cases hlt : k < l.length
  · have hltI : (k : Int) < l.length := by omega
    have hltJ : ¬ (l.length : Int) ≤ k := by omega
    have a3 := hq3.at1 [] hlt
    have hm := getD_mem [] hlt
    have hrk := hs.rank _ hm
    have hrl := hs.1.1 _ hm
    have hsu := oftL_succ l (factL (stgV l)) k hlt hrk
    have hol := oftL_len l (factL (stgV l)) k
    have hog := oftL_get l (factL (stgV l)) k _ hrk
    have hle := oft_le l k (rankL (l.getD k []))
    have hl8 := hs.1.2
    have hstg : (l.getD k []).length = stgV l := hrl.2
    generalize l.getD k [] = r at *
    simp only [↓vsd, vsn, gW, qd, qv, ev, pick, argE, zipE, ne_eq, eq_self, forall_const, implies_true, if_true, if_false, reduceIte, reduceCtorEq, Nat.reduceEqDiff, Nat.reduceAdd, Nat.reduceLT, ↓us_sl7Often, r_sl7Often, hltI, hltJ, hq3.facts, a3]
    refine ⟨by omega, m_call (sl1Place_ok r (by omega) _) ?_⟩
    rintro _ w4 hx4 rfl
    have hx4 : Ext w3 w4 := by first | exact hx4 | exact ud hx4 | exact ud (ud hx4)
    have hz4 := hz3.ext hx4
    have a4 := hz4.sq.at1 0 (i := rankL r) (by omega)
    rw [hog] at a4
    simp only [↓vsd, vsn, gW, qd, qv, ev, pick, argE, zipE, ne_eq, eq_self, forall_const, implies_true, if_true, if_false, reduceIte, reduceCtorEq, Nat.reduceEqDiff, Nat.reduceAdd, Nat.reduceLT, ↓us_sl7Often, r_sl7Often, hz4.sq.facts, a4]
    refine ⟨by omega, inR_i64 (by omega), by omega, m_set1 (rankL r) ((oftenL l k (rankL r) : Int) + 1) hz4 rfl (by omega) rfl fI_one ?_⟩
    rintro w5 hz5 hg5 _
    have hx5 := hz4.grown (hx3.trans hx4) (Nat.le_refl _) hg5
    simp only [↓vsd, vsn, gW, qd, qv, ev, pick, argE, zipE, ne_eq, eq_self, forall_const, implies_true, if_true, if_false, reduceIte, reduceCtorEq, Nat.reduceEqDiff, Nat.reduceAdd, Nat.reduceLT, ↓us_sl7Often, r_sl7Often]
    exact ⟨inR_i64 (by omega), UpTo.next hlt ⟨rfl, by rw [hsu]; exact hz5, hx5⟩⟩
  · obtain rfl : k = l.length := by omega
    have hltI : ¬ (l.length : Int) < l.length := by omega
    simp only [↓vsd, vsn, gW, qd, qv, ev, pick, argE, zipE, ne_eq, eq_self, forall_const, implies_true, if_true, if_false, reduceIte, reduceCtorEq, Nat.reduceEqDiff, Nat.reduceAdd, Nat.reduceLT, ↓us_sl7Often, r_sl7Often, hltI]
    exact ⟨hx3, hz3⟩
def howV (l : List Bs) : List Int := if SmallR l then oftV l else []
theorem iHowOften_ok (v : Value) (l : List Bs) (hl : l.length ≤ 1000000000) (w : World) (h : Sq fS 1 w v l) : Fn 74 [v] w (fun r w' => ∃ y, r = .tuple ⟨[y, .bool (decide (SmallR l))]⟩ ∧ Own fI 1 3 w.heap.size w' y (howV l)) := by
  (refine callsV_of mix Try.func74 c_iHowOften ?_; simp only [↓vsd, vsn, gW, qd, qv, ev, pick, argE, zipE, ne_eq, eq_self, forall_const, implies_true, if_true, if_false, reduceIte, reduceCtorEq, Nat.reduceEqDiff, Nat.reduceAdd, Nat.reduceLT, ↓us_iHowOften, r_iHowOften])
  refine m_call (icountable_ok v l hl _ h) ?_
  rintro _ w1 hx1 rfl
  by_cases hs : SmallR l
  · simp only [↓vsd, vsn, gW, qd, qv, ev, pick, argE, zipE, ne_eq, eq_self, forall_const, implies_true, if_true, if_false, reduceIte, reduceCtorEq, Nat.reduceEqDiff, Nat.reduceAdd, Nat.reduceLT, ↓us_iHowOften, r_iHowOften, hs]
    refine m_call (icounts_ok v l hs _ (by first | exact h.ext hx1 | exact h.ext (dr hx1))) ?_
    rintro y w2 hx2 ho2
    have hx2 : Ext w1 w2 := by first | exact hx2 | exact ud hx2 | exact ud (ud hx2)
    simp only [↓vsd, vsn, gW, qd, qv, ev, pick, argE, zipE, ne_eq, eq_self, forall_const, implies_true, if_true, if_false, reduceIte, reduceCtorEq, Nat.reduceEqDiff, Nat.reduceAdd, Nat.reduceLT, ↓us_iHowOften, r_iHowOften]
    exact ⟨hx1.trans hx2, y, rfl, by rw [howV, if_pos hs]; exact ho2.mono hx1.size⟩
  · simp only [↓vsd, vsn, gW, qd, qv, ev, pick, argE, zipE, ne_eq, eq_self, forall_const, implies_true, if_true, if_false, reduceIte, reduceCtorEq, Nat.reduceEqDiff, Nat.reduceAdd, Nat.reduceLT, ↓us_iHowOften, r_iHowOften, hs]
    exact ⟨hx1, _, rfl, by rw [howV, if_neg hs]; exact Own.nil fI_len⟩
theorem sHowOften_ok (v : Value) (l : List Bs) (hl : l.length ≤ 1000000000) (w : World) (h : Sq fS 1 w v l) : Fn 75 [v] w (fun r w' => ∃ y, r = .tuple ⟨[y, .bool (decide (SmallR l))]⟩ ∧ Own fI 1 3 w.heap.size w' y (howV l)) := by
  (refine callsV_of mix Try.func75 c_sHowOften ?_; simp only [↓vsd, vsn, gW, qd, qv, ev, pick, argE, zipE, ne_eq, eq_self, forall_const, implies_true, if_true, if_false, reduceIte, reduceCtorEq, Nat.reduceEqDiff, Nat.reduceAdd, Nat.reduceLT, ↓us_sHowOften, r_sHowOften])
  refine m_call (sl7Small_ok v l hl _ h) ?_
  rintro _ w1 hx1 rfl
  by_cases hs : SmallR l
  · simp only [↓vsd, vsn, gW, qd, qv, ev, pick, argE, zipE, ne_eq, eq_self, forall_const, implies_true, if_true, if_false, reduceIte, reduceCtorEq, Nat.reduceEqDiff, Nat.reduceAdd, Nat.reduceLT, ↓us_sHowOften, r_sHowOften, hs]
    refine m_call (sl7Often_ok v l hs _ (by first | exact h.ext hx1 | exact h.ext (dr hx1))) ?_
    rintro y w2 hx2 ho2
    have hx2 : Ext w1 w2 := by first | exact hx2 | exact ud hx2 | exact ud (ud hx2)
    simp only [↓vsd, vsn, gW, qd, qv, ev, pick, argE, zipE, ne_eq, eq_self, forall_const, implies_true, if_true, if_false, reduceIte, reduceCtorEq, Nat.reduceEqDiff, Nat.reduceAdd, Nat.reduceLT, ↓us_sHowOften, r_sHowOften]
    exact ⟨hx1.trans hx2, y, rfl, by rw [howV, if_pos hs]; exact ho2.mono hx1.size⟩
  · simp only [↓vsd, vsn, gW, qd, qv, ev, pick, argE, zipE, ne_eq, eq_self, forall_const, implies_true, if_true, if_false, reduceIte, reduceCtorEq, Nat.reduceEqDiff, Nat.reduceAdd, Nat.reduceLT, ↓us_sHowOften, r_sHowOften, hs]
    exact ⟨hx1, _, rfl, by rw [howV, if_neg hs]; exact Own.nil fI_len⟩
/-! ### the least and the greatest number -/
theorem xslices_Min_int_int_ok (v : Value) (l : List Int) (h0 : 0 < l.length) (hl : l.length ≤ 1000000000) (w : World) (h : Sq fI 1 w v l) : Fn 197 [v] w (fun r _ => ∃ x : Int, r = .int .i64 x ∧ (∃ i < l.length, l.getD i 0 = x) ∧ ∀ i < l.length, x ≤ l.getD i 0) := by
  (refine callsV_of mix Try.func197 c_xslices_Min_int_int ?_; simp only [↓vsd, vsn, gW, qd, qv, ev, pick, argE, zipE, ne_eq, eq_self, forall_const, implies_true, if_true, if_false, reduceIte, reduceCtorEq, Nat.reduceEqDiff, Nat.reduceAdd, Nat.reduceLT, ↓us_xslices_Min_int_int, r_xslices_Min_int_int])
  have a0 := h.at0 0 h0
  have h0I : ¬ (l.length : Int) < 1 := by omega
  simp only [↓vsd, vsn, gW, qd, qv, ev, pick, argE, zipE, ne_eq, eq_self, forall_const, implies_true, if_true, if_false, reduceIte, reduceCtorEq, Nat.reduceEqDiff, Nat.reduceAdd, Nat.reduceLT, ↓us_xslices_Min_int_int, r_xslices_Min_int_int, h.facts, a0, h0I]
  refine ⟨by omega, ?_⟩
  refine m_upto (l.length - 1) (fun k vs w' => ∃ x : Int, vs = [.int .i64 x, .int .i64 (k + 1 : Nat)] ∧ (∃ i < l.length, l.getD i 0 = x) ∧ (∀ i < k + 1, x ≤ l.getD i 0) ∧ Ext w w') ⟨_, rfl, ⟨0, h0, rfl⟩, (fun i hi => by rw [show i = 0 by omega]; exact Int.le_refl _), by first | exact Ext.refl _ | exact dr (Ext.refl _)⟩ ?_
  rintro k vs w1 hk ⟨x, rfl, hx, hall, hx1⟩
  have hq1 := h.ext hx1
  by_cases hlt : k + 1 < l.length
  · have hltI : ((k + 1 : Nat) : Int) < l.length := by omega
    have hltJ : ¬ (l.length : Int) ≤ (k + 1 : Nat) := by omega
    have a1 := hq1.at1 0 hlt
    have ek : ((k + 1 : Nat) : Int) + 1 = ((k + 1 + 1 : Nat) : Int) := by omega
    simp only [↓vsd, vsn, gW, qd, qv, ev, pick, argE, zipE, ne_eq, eq_self, forall_const, implies_true, if_true, if_false, reduceIte, reduceCtorEq, Nat.reduceEqDiff, Nat.reduceAdd, Nat.reduceLT, ↓us_xslices_Min_int_int, r_xslices_Min_int_int, hltI, hltJ, hq1.facts, a1, ek]
    refine ⟨by omega, inR_i64 (by omega), UpTo.next (by omega) ⟨_, rfl, ?_, fun i hi => ?_, by first | exact hx1 | exact dr hx1⟩⟩
    · split
      · exact ⟨k + 1, hlt, rfl⟩
      · exact hx
    · by_cases hik : i = k + 1
      · subst hik; split <;> omega
      · have := hall i (by omega); split <;> omega
  · obtain rfl : k = l.length - 1 := by omega
    have hltI : ¬ ((l.length - 1 + 1 : Nat) : Int) < l.length := by omega
    simp only [↓vsd, vsn, gW, qd, qv, ev, pick, argE, zipE, ne_eq, eq_self, forall_const, implies_true, if_true, if_false, reduceIte, reduceCtorEq, Nat.reduceEqDiff, Nat.reduceAdd, Nat.reduceLT, ↓us_xslices_Min_int_int, r_xslices_Min_int_int, hltI, hq1.facts]
    exact ⟨hx1, x, rfl, hx, fun i hi => hall i (by omega)⟩
theorem xslices_Max_int_int_ok (v : Value) (l : List Int) (h0 : 0 < l.length) (hl : l.length ≤ 1000000000) (w : World) (h : Sq fI 1 w v l) : Fn 198 [v] w (fun r _ => ∃ x : Int, r = .int .i64 x ∧ (∃ i < l.length, l.getD i 0 = x) ∧ ∀ i < l.length, l.getD i 0 ≤ x) := by
  (refine callsV_of mix Try.func198 c_xslices_Max_int_int ?_; simp only [↓vsd, vsn, gW, qd, qv, ev, pick, argE, zipE, ne_eq, eq_self, forall_const, implies_true, if_true, if_false, reduceIte, reduceCtorEq, Nat.reduceEqDiff, Nat.reduceAdd, Nat.reduceLT, ↓us_xslices_Max_int_int, r_xslices_Max_int_int])
  have a0 := h.at0 0 h0
  have h0I : ¬ (l.length : Int) < 1 := by omega
  simp only [↓vsd, vsn, gW, qd, qv, ev, pick, argE, zipE, ne_eq, eq_self, forall_const, implies_true, if_true, if_false, reduceIte, reduceCtorEq, Nat.reduceEqDiff, Nat.reduceAdd, Nat.reduceLT, ↓us_xslices_Max_int_int, r_xslices_Max_int_int, h.facts, a0, h0I]
  refine ⟨by omega, ?_⟩
  refine m_upto (l.length - 1) (fun k vs w' => ∃ x : Int, vs = [.int .i64 x, .int .i64 (k + 1 : Nat)] ∧ (∃ i < l.length, l.getD i 0 = x) ∧ (∀ i < k + 1, l.getD i 0 ≤ x) ∧ Ext w w') ⟨_, rfl, ⟨0, h0, rfl⟩, (fun i hi => by rw [show i = 0 by omega]; exact Int.le_refl _), by first | exact Ext.refl _ | exact dr (Ext.refl _)⟩ ?_
  rintro k vs w1 hk ⟨x, rfl, hx, hall, hx1⟩
  have hq1 := h.ext hx1
  by_cases hlt : k + 1 < l.length
  · have hltI : ((k + 1 : Nat) : Int) < l.length := by omega
    have hltJ : ¬ (l.length : Int) ≤ (k + 1 : Nat) := by omega
    have a1 := hq1.at1 0 hlt
    have ek : ((k + 1 : Nat) : Int) + 1 = ((k + 1 + 1 : Nat) : Int) := by omega
    simp only [↓vsd, vsn, gW, qd, qv, ev, pick, argE, zipE, ne_eq, eq_self, forall_const, implies_true, if_true, if_false, reduceIte, reduceCtorEq, Nat.reduceEqDiff, Nat.reduceAdd, Nat.reduceLT, ↓us_xslices_Max_int_int, r_xslices_Max_int_int, hltI, hltJ, hq1.facts, a1, ek]
    refine ⟨by omega, inR_i64 (by omega), UpTo.next (by omega) ⟨_, rfl, ?_, fun i hi => ?_, by first | exact hx1 | exact dr hx1⟩⟩
    · split
      · exact ⟨k + 1, hlt, rfl⟩
      · exact hx
    · by_cases hik : i = k + 1
      · subst hik; split <;> omega
      · have := hall i (by omega); split <;> omega
  · obtain rfl : k = l.length - 1 := by omega
    have hltI : ¬ ((l.length - 1 + 1 : Nat) : Int) < l.length := by omega
    simp only [↓vsd, vsn, gW, qd, qv, ev, pick, argE, zipE, ne_eq, eq_self, forall_const, implies_true, if_true, if_false, reduceIte, reduceCtorEq, Nat.reduceEqDiff, Nat.reduceAdd, Nat.reduceLT, ↓us_xslices_Max_int_int, r_xslices_Max_int_int, hltI, hq1.facts]
    exact ⟨hx1, x, rfl, hx, fun i hi => hall i (by omega)⟩
/-- All numbers of a list are equal. -/
def LevelL (L : List Int) : Prop := ∀ i < L.length, L.getD i 0 = L.getD 0 0
instance (L : List Int) : Decidable (LevelL L) := by unfold LevelL; infer_instance
def levV (l : List Bs) : Value := .tuple ⟨[.bool (decide (SmallR l ∧ LevelL (oftV l))), .bool (decide (SmallR l))]⟩
theorem oftV_len (l : List Bs) : (oftV l).length = factL (stgV l) := oftL_len _ _ _
theorem iIsLevel_ok (v : Value) (l : List Bs) (hl : l.length ≤ 1000000000) (w : World) (h : Sq fS 1 w v l) : Fn 72 [v] w (fun r _ => r = levV l) := by
  (refine callsV_of mix Try.func72 c_iIsLevel ?_; simp only [↓vsd, vsn, gW, qd, qv, ev, pick, argE, zipE, ne_eq, eq_self, forall_const, implies_true, if_true, if_false, reduceIte, reduceCtorEq, Nat.reduceEqDiff, Nat.reduceAdd, Nat.reduceLT, ↓us_iIsLevel, r_iIsLevel])
  refine m_call (icountable_ok v l hl _ h) ?_
  rintro _ w1 hx1 rfl
  by_cases hs : SmallR l
  · have h36 := hs.stage
    have hf := fact720 (stgV l) (by omega)
    have hp := factL_pos (stgV l)
    have hol := oftV_len l
    simp only [↓vsd, vsn, gW, qd, qv, ev, pick, argE, zipE, ne_eq, eq_self, forall_const, implies_true, if_true, if_false, reduceIte, reduceCtorEq, Nat.reduceEqDiff, Nat.reduceAdd, Nat.reduceLT, ↓us_iIsLevel, r_iIsLevel, hs]
    refine m_call (icounts_ok v l hs _ (by first | exact h.ext hx1 | exact h.ext (dr hx1))) ?_
    rintro y w2 hx2 ho2
    have hx2 : Ext w1 w2 := by first | exact hx2 | exact ud hx2 | exact ud (ud hx2)
    simp only [↓vsd, vsn, gW, qd, qv, ev, pick, argE, zipE, ne_eq, eq_self, forall_const, implies_true, if_true, if_false, reduceIte, reduceCtorEq, Nat.reduceEqDiff, Nat.reduceAdd, Nat.reduceLT, ↓us_iIsLevel, r_iIsLevel]
    refine m_call (xslices_Min_int_int_ok y (oftV l) (by omega) (by omega) _ (by first | exact ho2.sq | exact ho2.sq.ext (dr (Ext.refl _)))) ?_
    rintro _ w3 hx3 ⟨a, rfl, ⟨i, hi, ha⟩, hma⟩
    have hx3 : Ext w2 w3 := by first | exact hx3 | exact ud hx3 | exact ud (ud hx3)
    simp only [↓vsd, vsn, gW, qd, qv, ev, pick, argE, zipE, ne_eq, eq_self, forall_const, implies_true, if_true, if_false, reduceIte, reduceCtorEq, Nat.reduceEqDiff, Nat.reduceAdd, Nat.reduceLT, ↓us_iIsLevel, r_iIsLevel]
    refine m_call (xslices_Max_int_int_ok y (oftV l) (by omega) (by omega) _ (by first | exact ho2.sq.ext hx3 | exact (ho2.sq.ext hx3).ext (dr (Ext.refl _)))) ?_
    rintro _ w4 hx4 ⟨b, rfl, ⟨j, hj, hb⟩, hmb⟩
    have hx4 : Ext w3 w4 := by first | exact hx4 | exact ud hx4 | exact ud (ud hx4)
    simp only [↓vsd, vsn, gW, qd, qv, ev, pick, argE, zipE, ne_eq, eq_self, forall_const, implies_true, if_true, if_false, reduceIte, reduceCtorEq, Nat.reduceEqDiff, Nat.reduceAdd, Nat.reduceLT, ↓us_iIsLevel, r_iIsLevel]
    refine ⟨((hx1.trans hx2).trans hx3).trans hx4, ?_⟩
    have he : LevelL (oftV l) ↔ a = b := by
      constructor
      · intro hL; rw [← ha, ← hb, hL i hi, hL j hj]
      · intro e k hk
        have h1 := hma k hk
        have h2 := hmb k hk
        have h3 := hma 0 (by omega)
        have h4 := hmb 0 (by omega)
        omega
    unfold levV
    simp only [hs, true_and, he, decide_true]
  · simp only [↓vsd, vsn, gW, qd, qv, ev, pick, argE, zipE, ne_eq, eq_self, forall_const, implies_true, if_true, if_false, reduceIte, reduceCtorEq, Nat.reduceEqDiff, Nat.reduceAdd, Nat.reduceLT, ↓us_iIsLevel, r_iIsLevel, hs]
    exact ⟨hx1, by unfold levV; simp only [hs, false_and, decide_false]⟩
theorem sIsLevel_ok (v : Value) (l : List Bs) (hl : l.length ≤ 1000000000) (w : World) (h : Sq fS 1 w v l) : Fn 73 [v] w (fun r _ => r = levV l) := by
  (refine callsV_of mix Try.func73 c_sIsLevel ?_; simp only [↓vsd, vsn, gW, qd, qv, ev, pick, argE, zipE, ne_eq, eq_self, forall_const, implies_true, if_true, if_false, reduceIte, reduceCtorEq, Nat.reduceEqDiff, Nat.reduceAdd, Nat.reduceLT, ↓us_sIsLevel, r_sIsLevel])
  refine m_call (sl7Small_ok v l hl _ h) ?_
  rintro _ w1 hx1 rfl
  by_cases hs : SmallR l
  · have h36 := hs.stage
    have hf := fact720 (stgV l) (by omega)
    have hp := factL_pos (stgV l)
    have hol := oftV_len l
    have hlev : ∀ {p : Prop} [Decidable p], (p ↔ LevelL (oftV l)) → Value.tuple ⟨[.bool (decide p), .bool true]⟩ = levV l := fun hp => by
      unfold levV; simp only [hs, true_and, hp, decide_true]
    simp only [↓vsd, vsn, gW, qd, qv, ev, pick, argE, zipE, ne_eq, eq_self, forall_const, implies_true, if_true, if_false, reduceIte, reduceCtorEq, Nat.reduceEqDiff, Nat.reduceAdd, Nat.reduceLT, ↓us_sIsLevel, r_sIsLevel, hs]
    refine m_call (sl7Often_ok v l hs _ (by first | exact h.ext hx1 | exact h.ext (dr hx1))) ?_
    rintro y w2 hx2 ho2
    have hx2 : Ext w1 w2 := by first | exact hx2 | exact ud hx2 | exact ud (ud hx2)
    have hx12 := hx1.trans hx2
    have hq2 := ho2.sq
    generalize oftV l = L at *
    simp only [↓vsd, vsn, gW, qd, qv, ev, pick, argE, zipE, ne_eq, eq_self, forall_const, implies_true, if_true, if_false, reduceIte, reduceCtorEq, Nat.reduceEqDiff, Nat.reduceAdd, Nat.reduceLT, ↓us_sIsLevel, r_sIsLevel, hq2.facts]
    refine m_upto L.length (fun k vs w' => vs = [.int .i64 k] ∧ (∀ i < k, L.getD i 0 = L.getD 0 0) ∧ Ext w2 w') ⟨rfl, (fun i hi => by omega), by first | exact Ext.refl _ | exact dr (Ext.refl _)⟩ ?_
    rintro k vs w3 hk ⟨rfl, hall, hx3⟩
    have hq3 := hq2.ext hx3
    by_cases hlt : k < L.length
    · have hltI : (k : Int) < L.length := by omega
      have hltJ : ¬ (L.length : Int) ≤ k := by omega
      have a3 := hq3.at1 0 hlt
      have b3 := hq3.at0 0 (by omega)
      by_cases he : L.getD k 0 = L.getD 0 0
      · simp only [↓vsd, vsn, gW, qd, qv, ev, pick, argE, zipE, ne_eq, eq_self, forall_const, implies_true, if_true, if_false, reduceIte, reduceCtorEq, Nat.reduceEqDiff, Nat.reduceAdd, Nat.reduceLT, ↓us_sIsLevel, r_sIsLevel, hltI, hltJ, hq3.facts, a3, b3, he]
        exact ⟨by omega, by omega, inR_i64 (by omega), UpTo.next hlt ⟨rfl, fun i hi => by
          by_cases hik : i = k
          · rw [hik]; exact he
          · exact hall i (by omega), by first | exact hx3 | exact dr hx3⟩⟩
      · simp only [↓vsd, vsn, gW, qd, qv, ev, pick, argE, zipE, ne_eq, eq_self, forall_const, implies_true, if_true, if_false, reduceIte, reduceCtorEq, Nat.reduceEqDiff, Nat.reduceAdd, Nat.reduceLT, ↓us_sIsLevel, r_sIsLevel, hltI, hltJ, hq3.facts, a3, b3, he]
        refine ⟨by omega, by omega, hx12.trans hx3, ?_⟩
        rw [← hlev (p := LevelL L) Iff.rfl, decide_eq_false (fun hh => he (hh k hlt))]
    · obtain rfl : k = L.length := by omega
      have hltI : ¬ (L.length : Int) < L.length := by omega
      simp only [↓vsd, vsn, gW, qd, qv, ev, pick, argE, zipE, ne_eq, eq_self, forall_const, implies_true, if_true, if_false, reduceIte, reduceCtorEq, Nat.reduceEqDiff, Nat.reduceAdd, Nat.reduceLT, ↓us_sIsLevel, r_sIsLevel, hltI]
      refine ⟨hx12.trans hx3, ?_⟩
      rw [← hlev (p := LevelL L) Iff.rfl, decide_eq_true (show LevelL L from hall)]
  · simp only [↓vsd, vsn, gW, qd, qv, ev, pick, argE, zipE, ne_eq, eq_self, forall_const, implies_true, if_true, if_false, reduceIte, reduceCtorEq, Nat.reduceEqDiff, Nat.reduceAdd, Nat.reduceLT, ↓us_sIsLevel, r_sIsLevel, hs]
    exact ⟨hx1, by unfold levV; simp only [hs, false_and, decide_false]⟩
/-- The rows that do not occur, among the first m of the stage. -/
def missL (l : List Bs) (m : Nat) : List Bs := ((List.range m).filter fun k => decide (oftenL l l.length k = 0)).map fun k => rowGo (stgV l) (roundsL (stgV l)) k
theorem miss_succ (l : List Bs) (m : Nat) : missL l (m + 1) = missL l m ++ if oftenL l l.length m = 0 then [rowGo (stgV l) (roundsL (stgV l)) m] else [] := by
  unfold missL
  rw [List.range_succ, List.filter_append, List.map_append]
  congr 1
  by_cases h : oftenL l l.length m = 0
  · rw [if_pos h, List.filter_cons_of_pos (by simpa using h)]; rfl
  · rw [if_neg h, List.filter_cons_of_neg (by simpa using h)]; rfl
theorem miss_len (l : List Bs) (m : Nat) : (missL l m).length ≤ m := by
  rw [missL, List.length_map]
  refine Nat.le_trans (List.length_filter_le _ _) ?_
  simp
def missV (l : List Bs) : List Bs := if SmallR l then missL l (factL (stgV l)) else []
theorem iMissingIn_ok (v : Value) (l : List Bs) (hl : l.length ≤ 1000000000) (w : World) (h : Sq fS 1 w v l) : Fn 76 [v] w (fun r w' => ∃ y, r = .tuple ⟨[y, .bool (decide (SmallR l))]⟩ ∧ Own fS 1 9 w.heap.size w' y (missV l)) := by
  (refine callsV_of mix Try.func76 c_iMissingIn ?_; simp only [↓vsd, vsn, gW, qd, qv, ev, pick, argE, zipE, ne_eq, eq_self, forall_const, implies_true, if_true, if_false, reduceIte, reduceCtorEq, Nat.reduceEqDiff, Nat.reduceAdd, Nat.reduceLT, ↓us_iMissingIn, r_iMissingIn])
  refine m_call (icountable_ok v l hl _ h) ?_
  rintro _ w1 hx1 rfl
  by_cases hs : SmallR l
  · have h36 := hs.stage
    have hf := fact720 (stgV l) (by omega)
    have h0 := hs.2.1
    have hol := oftV_len l
    simp only [↓vsd, vsn, gW, qd, qv, ev, pick, argE, zipE, ne_eq, eq_self, forall_const, implies_true, if_true, if_false, reduceIte, reduceCtorEq, Nat.reduceEqDiff, Nat.reduceAdd, Nat.reduceLT, ↓us_iMissingIn, r_iMissingIn, hs]
    refine m_bsl (by simp) ?_
    rintro b2 w2 hb2 hblk2 hx2 hs2
    have hx2 : Ext w1 w2 := by first | exact hx2 | exact ud hx2 | exact ud (ud hx2)
    have hx12 := hx1.trans hx2
    simp only [↓vsd, vsn, gW, qd, qv, ev, pick, argE, zipE, ne_eq, eq_self, forall_const, implies_true, if_true, if_false, reduceIte, reduceCtorEq, Nat.reduceEqDiff, Nat.reduceAdd, Nat.reduceLT, ↓us_iMissingIn, r_iMissingIn]
    refine m_call (icounts_ok v l hs _ (by first | exact h.ext hx12 | exact h.ext (dr hx12))) ?_
    rintro y w3 hx3 hoy
    have hx3 : Ext w2 w3 := by first | exact hx3 | exact ud hx3 | exact ud (ud hx3)
    have hx13 := hx12.trans hx3
    have hq2 := hoy.sq
    have hb2' : b2 = w1.heap.size := hb2
    have hap : Apart (.slice (some ⟨b2, 0, none⟩) 0 0) y := fun c hc e => by
      simp only [Value.ownBlock, Option.some.injEq] at hc
      have := (hoy.bound c e).1
      have := hs2
      omega
    have hox : Own fS 1 9 w.heap.size w3 (.slice (some ⟨b2, 0, none⟩) 0 0) (missL l 0) := ((Own.empty fS_len hblk2 (by have := hx1.size; omega)).ext hx3).to (by simp [missL])
    have hoy := hoy.mono hx12.size
    simp only [↓vsd, vsn, gW, qd, qv, ev, pick, argE, zipE, ne_eq, eq_self, forall_const, implies_true, if_true, if_false, reduceIte, reduceCtorEq, Nat.reduceEqDiff, Nat.reduceAdd, Nat.reduceLT, ↓us_iMissingIn, r_iMissingIn, hq2.facts]
    refine m_upto (oftV l).length (fun k vs w' => ∃ x, vs = [x, .int .i64 k] ∧ Own fS 1 9 w.heap.size w' x (missL l k) ∧ Own fI 1 3 w.heap.size w' y (oftV l) ∧ Apart x y ∧ Ext w w') ⟨_, rfl, hox, hoy, hap, hx13⟩ ?_
    rintro k vs w4 hk ⟨x, rfl, ho4, hy4, hap4, hx4⟩
    have hq4 := hy4.sq
    by_cases hlt : k < (oftV l).length
    · have hltI : (k : Int) < (oftV l).length := by omega
      have hltJ : ¬ ((oftV l).length : Int) ≤ k := by omega
      have a4 := hq4.at1 0 hlt
      have hog : (oftV l).getD k 0 = (oftenL l l.length k : Int) := oftL_get l _ _ k (by omega)
      rw [hog] at a4
      have hms := miss_succ l k
      have hml := miss_len l k
      have hl4 := h.ext hx4
      have a5 := hl4.at0 [] h0
      by_cases hz : oftenL l l.length k = 0
      · have hzI : (oftenL l l.length k : Int) = 0 := by omega
        rw [if_pos hz] at hms
        simp only [↓vsd, vsn, gW, qd, qv, ev, pick, argE, zipE, ne_eq, eq_self, forall_const, implies_true, if_true, if_false, reduceIte, reduceCtorEq, Nat.reduceEqDiff, Nat.reduceAdd, Nat.reduceLT, ↓us_iMissingIn, r_iMissingIn, hltI, hltJ, hq4.facts, a4, hzI, hl4.facts, a5]
        refine ⟨by omega, by omega, m_call (irowOf_ok (stgV l) k (by omega) (by omega) _) ?_⟩
        rintro _ w5 hx5 rfl
        have hx5 : Ext w4 w5 := by first | exact hx5 | exact ud hx5 | exact ud (ud hx5)
        simp only [↓vsd, vsn, gW, qd, qv, ev, pick, argE, zipE, ne_eq, eq_self, forall_const, implies_true, if_true, if_false, reduceIte, reduceCtorEq, Nat.reduceEqDiff, Nat.reduceAdd, Nat.reduceLT, ↓us_iMissingIn, r_iMissingIn]
        refine m_bsl (one_el rfl) ?_
        rintro b6 w6 hb6 hblk6 hx6 hs6
        have hx6 : Ext w5 w6 := by first | exact hx6 | exact ud hx6 | exact ud (ud hx6)
        have hx46 := hx5.trans hx6
        simp only [↓vsd, vsn, gW, qd, qv, ev, pick, argE, zipE, ne_eq, eq_self, forall_const, implies_true, if_true, if_false, reduceIte, reduceCtorEq, Nat.reduceEqDiff, Nat.reduceAdd, Nat.reduceLT, ↓us_iMissingIn, r_iMissingIn]
        refine m_app2 (ho4.ext hx46) (Sq.one fS_len hblk6 rfl) fS_one (by decide) (by rw [List.length_singleton]; omega) (by decide) (hx4.trans hx46).size ?_
        rintro x7 w7 ho7 hg7 hn7
        have hx7 := (ho4.ext hx46).grown (hx4.trans hx46) (Nat.le_refl _) hg7
        have hy7 := (hy4.ext hx46).keep2 hg7 hap4
        simp only [↓vsd, vsn, gW, qd, qv, ev, pick, argE, zipE, ne_eq, eq_self, forall_const, implies_true, if_true, if_false, reduceIte, reduceCtorEq, Nat.reduceEqDiff, Nat.reduceAdd, Nat.reduceLT, ↓us_iMissingIn, r_iMissingIn]
        exact ⟨inR_i64 (by omega), UpTo.next hlt ⟨x7, rfl, ho7.to hms.symm, hy7, hap4.next (hy4.ext hx46) hn7, hx7⟩⟩
      · have hzI : ¬ (oftenL l l.length k : Int) = 0 := by omega
        rw [if_neg hz, List.append_nil] at hms
        simp only [↓vsd, vsn, gW, qd, qv, ev, pick, argE, zipE, ne_eq, eq_self, forall_const, implies_true, if_true, if_false, reduceIte, reduceCtorEq, Nat.reduceEqDiff, Nat.reduceAdd, Nat.reduceLT, ↓us_iMissingIn, r_iMissingIn, hltI, hltJ, hq4.facts, a4, hzI]
        exact ⟨by omega, inR_i64 (by omega), UpTo.next hlt ⟨x, rfl, by first | exact ho4.to hms.symm | exact (ho4.to hms.symm).ext (dr (Ext.refl _)), by first | exact hy4 | exact hy4.ext (dr (Ext.refl _)), hap4, by first | exact hx4 | exact dr hx4⟩⟩
    · obtain rfl : k = (oftV l).length := by omega
      have hltI : ¬ ((oftV l).length : Int) < (oftV l).length := by omega
      have hml := miss_len l (oftV l).length
      have h800 : ¬ (800 : Int) < ((missL l (oftV l).length).length : Nat) := by omega
      simp only [↓vsd, vsn, gW, qd, qv, ev, pick, argE, zipE, ne_eq, eq_self, forall_const, implies_true, if_true, if_false, reduceIte, reduceCtorEq, Nat.reduceEqDiff, Nat.reduceAdd, Nat.reduceLT, ↓us_iMissingIn, r_iMissingIn, hltI, ho4.sq.facts, h800]
      exact ⟨hx4, x, rfl, by rw [missV, if_pos hs, ← hol]; exact ho4⟩
  · simp only [↓vsd, vsn, gW, qd, qv, ev, pick, argE, zipE, ne_eq, eq_self, forall_const, implies_true, if_true, if_false, reduceIte, reduceCtorEq, Nat.reduceEqDiff, Nat.reduceAdd, Nat.reduceLT, ↓us_iMissingIn, r_iMissingIn, hs]
    exact ⟨hx1, _, rfl, by rw [missV, if_neg hs]; exact Own.nil fS_len⟩
theorem sRowOf_okm (n k : Nat) (hn : 3 ≤ n ∧ n < 9) (hk : k < factL n) (w : World) : Fn 202 [.int .i64 n, .int .i64 k] w (fun v _ => v = .tuple ⟨[S (rowGo n (roundsL n) k), .bool true]⟩) := sRowOf_ok n k hn hk w
theorem sMissingIn_ok (v : Value) (l : List Bs) (hl : l.length ≤ 1000000000) (w : World) (h : Sq fS 1 w v l) : Fn 77 [v] w (fun r w' => ∃ y, r = .tuple ⟨[y, .bool (decide (SmallR l))]⟩ ∧ Own fS 1 9 w.heap.size w' y (missV l)) := by
  (refine callsV_of mix Try.func77 c_sMissingIn ?_; simp only [↓vsd, vsn, gW, qd, qv, ev, pick, argE, zipE, ne_eq, eq_self, forall_const, implies_true, if_true, if_false, reduceIte, reduceCtorEq, Nat.reduceEqDiff, Nat.reduceAdd, Nat.reduceLT, ↓us_sMissingIn, r_sMissingIn])
  refine m_call (sl7Small_ok v l hl _ h) ?_
  rintro _ w1 hx1 rfl
  by_cases hs : SmallR l
  · have h36 := hs.stage
    have hf := fact720 (stgV l) (by omega)
    have h0 := hs.2.1
    have hol := oftV_len l
    simp only [↓vsd, vsn, gW, qd, qv, ev, pick, argE, zipE, ne_eq, eq_self, forall_const, implies_true, if_true, if_false, reduceIte, reduceCtorEq, Nat.reduceEqDiff, Nat.reduceAdd, Nat.reduceLT, ↓us_sMissingIn, r_sMissingIn, hs]
    refine m_call (sl7Often_ok v l hs _ (by first | exact h.ext hx1 | exact h.ext (dr hx1))) ?_
    rintro y w3 hx3 hoy
    have hx3 : Ext w1 w3 := by first | exact hx3 | exact ud hx3 | exact ud (ud hx3)
    have hx13 := hx1.trans hx3
    have hq2 := hoy.sq
    have hap : Apart (.slice none 0 0) y := fun c hc e => by cases hc
    have hox : Own fS 1 9 w.heap.size w3 (.slice none 0 0) (missL l 0) := (Own.nil fS_len).to (by simp [missL])
    have hoy := hoy.mono hx1.size
    simp only [↓vsd, vsn, gW, qd, qv, ev, pick, argE, zipE, ne_eq, eq_self, forall_const, implies_true, if_true, if_false, reduceIte, reduceCtorEq, Nat.reduceEqDiff, Nat.reduceAdd, Nat.reduceLT, ↓us_sMissingIn, r_sMissingIn, hq2.facts]
    refine m_upto (oftV l).length (fun k vs w' => ∃ x, vs = [x, .int .i64 k] ∧ Own fS 1 9 w.heap.size w' x (missL l k) ∧ Own fI 1 3 w.heap.size w' y (oftV l) ∧ Apart x y ∧ Ext w w') ⟨_, rfl, hox, hoy, hap, hx13⟩ ?_
    rintro k vs w4 hk ⟨x, rfl, ho4, hy4, hap4, hx4⟩
    have hq4 := hy4.sq
    by_cases hlt : k < (oftV l).length
    · have hltI : (k : Int) < (oftV l).length := by omega
      have hltJ : ¬ ((oftV l).length : Int) ≤ k := by omega
      have a4 := hq4.at1 0 hlt
      have hog : (oftV l).getD k 0 = (oftenL l l.length k : Int) := oftL_get l _ _ k (by omega)
      rw [hog] at a4
      have hms := miss_succ l k
      have hml := miss_len l k
      have hl4 := h.ext hx4
      have a5 := hl4.at0 [] h0
      by_cases hz : oftenL l l.length k = 0
      · have hzI : (oftenL l l.length k : Int) = 0 := by omega
        rw [if_pos hz] at hms
        simp only [↓vsd, vsn, gW, qd, qv, ev, pick, argE, zipE, ne_eq, eq_self, forall_const, implies_true, if_true, if_false, reduceIte, reduceCtorEq, Nat.reduceEqDiff, Nat.reduceAdd, Nat.reduceLT, ↓us_sMissingIn, r_sMissingIn, hltI, hltJ, hq4.facts, a4, hzI, hl4.facts, a5]
        refine ⟨by omega, by omega, m_call (sRowOf_okm (stgV l) k (by omega) (by omega) _) ?_⟩
        rintro _ w5 hx5 rfl
        have hx5 : Ext w4 w5 := by first | exact hx5 | exact ud hx5 | exact ud (ud hx5)
        simp only [↓vsd, vsn, gW, qd, qv, ev, pick, argE, zipE, ne_eq, eq_self, forall_const, implies_true, if_true, if_false, reduceIte, reduceCtorEq, Nat.reduceEqDiff, Nat.reduceAdd, Nat.reduceLT, ↓us_sMissingIn, r_sMissingIn]
        refine m_bsl (one_el rfl) ?_
        rintro b6 w6 hb6 hblk6 hx6 hs6
        have hx6 : Ext w5 w6 := by first | exact hx6 | exact ud hx6 | exact ud (ud hx6)
        have hx46 := hx5.trans hx6
        simp only [↓vsd, vsn, gW, qd, qv, ev, pick, argE, zipE, ne_eq, eq_self, forall_const, implies_true, if_true, if_false, reduceIte, reduceCtorEq, Nat.reduceEqDiff, Nat.reduceAdd, Nat.reduceLT, ↓us_sMissingIn, r_sMissingIn]
        refine m_app2 (ho4.ext hx46) (Sq.one fS_len hblk6 rfl) fS_one (by decide) (by rw [List.length_singleton]; omega) (by decide) (hx4.trans hx46).size ?_
        rintro x7 w7 ho7 hg7 hn7
        have hx7 := (ho4.ext hx46).grown (hx4.trans hx46) (Nat.le_refl _) hg7
        have hy7 := (hy4.ext hx46).keep2 hg7 hap4
        simp only [↓vsd, vsn, gW, qd, qv, ev, pick, argE, zipE, ne_eq, eq_self, forall_const, implies_true, if_true, if_false, reduceIte, reduceCtorEq, Nat.reduceEqDiff, Nat.reduceAdd, Nat.reduceLT, ↓us_sMissingIn, r_sMissingIn]
        exact ⟨inR_i64 (by omega), UpTo.next hlt ⟨x7, rfl, ho7.to hms.symm, hy7, hap4.next (hy4.ext hx46) hn7, hx7⟩⟩
      · have hzI : ¬ (oftenL l l.length k : Int) = 0 := by omega
        rw [if_neg hz, List.append_nil] at hms
        simp only [↓vsd, vsn, gW, qd, qv, ev, pick, argE, zipE, ne_eq, eq_self, forall_const, implies_true, if_true, if_false, reduceIte, reduceCtorEq, Nat.reduceEqDiff, Nat.reduceAdd, Nat.reduceLT, ↓us_sMissingIn, r_sMissingIn, hltI, hltJ, hq4.facts, a4, hzI]
        exact ⟨by omega, inR_i64 (by omega), UpTo.next hlt ⟨x, rfl, by first | exact ho4.to hms.symm | exact (ho4.to hms.symm).ext (dr (Ext.refl _)), by first | exact hy4 | exact hy4.ext (dr (Ext.refl _)), hap4, by first | exact hx4 | exact dr hx4⟩⟩
    · obtain rfl : k = (oftV l).length := by omega
      have hltI : ¬ ((oftV l).length : Int) < (oftV l).length := by omega
      simp only [↓vsd, vsn, gW, qd, qv, ev, pick, argE, zipE, ne_eq, eq_self, forall_const, implies_true, if_true, if_false, reduceIte, reduceCtorEq, Nat.reduceEqDiff, Nat.reduceAdd, Nat.reduceLT, ↓us_sMissingIn, r_sMissingIn, hltI]
      exact ⟨hx4, x, rfl, by rw [missV, if_pos hs, ← hol]; exact ho4⟩
  · simp only [↓vsd, vsn, gW, qd, qv, ev, pick, argE, zipE, ne_eq, eq_self, forall_const, implies_true, if_true, if_false, reduceIte, reduceCtorEq, Nat.reduceEqDiff, Nat.reduceAdd, Nat.reduceLT, ↓us_sMissingIn, r_sMissingIn, hs]
    exact ⟨hx1, _, rfl, by rw [missV, if_neg hs]; exact Own.nil fS_len⟩
/-- o leads from each row of l to the next one, from the last one to the first one. -/
def LeadsIn (l : List Bs) (o : Nat → Option Bs) : Prop := ∀ i < l.length, Leads (l.getD i []) (l.getD ((i + 1) % l.length) []) (o i)
def NextOk (o : Nat → Option Bs) (n : Nat) : Prop := 0 < n ∧ ∀ i < n, (o i).isSome = true
instance (o : Nat → Option Bs) (n : Nat) : Decidable (NextOk o n) := by unfold NextOk; infer_instance
def chL (o : Nat → Option Bs) (n : Nat) : List Bs := (List.range n).map fun i => (o i).getD []
theorem chL_succ (o : Nat → Option Bs) (n : Nat) {c : Bs} (h : o n = some c) : chL o (n + 1) = chL o n ++ [c] := by
  rw [chL, List.range_succ, List.map_append, List.map_cons, h]; rfl
theorem chL_len (o : Nat → Option Bs) (n : Nat) : (chL o n).length = n := by simp [chL]
def chV (o : Nat → Option Bs) (n : Nat) : List Bs := if NextOk o n then chL o n else []
theorem chV_len (o : Nat → Option Bs) (n : Nat) : (chV o n).length ≤ n := by
  unfold chV; split
  · rw [chL_len]; exact Nat.le_refl _
  · simp
theorem leadsIn_ex (l : List Bs) : ∃ o, LeadsIn l o := ⟨fun i => (leads_some (l.getD i []) (l.getD ((i + 1) % l.length) [])).choose, fun i _ => (leads_some (l.getD i []) (l.getD ((i + 1) % l.length) [])).choose_spec⟩
theorem btwV_leads {a b : Bs} {o : Option Bs} (ha : IsRow a) (hb : IsRow b) (hl : a.length = b.length) (h : Leads a b o) : ∃ x, btwV (btw a b (a.length + 1) 0 [] false) = .tuple ⟨[S x, .bool o.isSome]⟩ ∧ ∀ c, o = some c → x = c := by
  cases o with
  | some c =>
    obtain ⟨_, hc, rfl⟩ := h
    have hlen := hc.len
    refine ⟨c, ?_, fun d e => Option.some.inj e⟩
    rw [btw_chg ha hc, btwV]
    by_cases hd : c = [45]
    · rw [if_pos hd, if_pos rfl, hd]; rfl
    · rw [if_neg hd, if_neg (fun e => by rw [e] at hlen; simp at hlen)]; rfl
  | none =>
    rcases btw_any ha hb hl with ⟨c, h1, h2, _⟩ | ⟨_, h2⟩
    · exact absurd h2 (h ⟨ha, hb, hl⟩ c h1)
    · cases hv : btw a b (a.length + 1) 0 [] false with
      | none => exact ⟨[], rfl, fun c e => by cases e⟩
      | some p =>
        obtain ⟨c, s⟩ := p
        cases s with
        | true => exact absurd hv (h2 c)
        | false => exact ⟨_, rfl, fun c e => by cases e⟩
theorem leads_self {a : Bs} {o : Option Bs} (h : Leads a a o) : o = none := by
  cases o with
  | none => rfl
  | some c =>
    obtain ⟨⟨ha, _, _⟩, hc, he⟩ := h
    exfalso
    have hg := chgL_row a.length c ha.1
    have hl := chgL_len a.length c
    rw [applyL] at he
    have h1 : timesL a (chgL a.length c) = timesL a (roundsL a.length) := by rw [he, times_rounds ha.1.2]
    exact (chg_inv hc).2 (times_cancel ha hg (roundsL_row _ ha.1) hl.symm (roundsL_len _).symm h1)
theorem ichangesIn_all (v : Value) (l : List Bs) (o : Nat → Option Bs) (hr : IsRows l) (ho : LeadsIn l o) (w : World) (h : Sq fS 1 w v l) : Fn 203 [v] w (fun r w' => ∃ y, r = .tuple ⟨[y, .bool (decide (NextOk o l.length))]⟩ ∧ Own fS 1 9 w.heap.size w' y (chV o l.length)) := by
  have hno : ¬ NextOk o l.length → ∀ w', ∃ y, Value.tuple ⟨[.slice none 0 0, .bool false]⟩ = .tuple ⟨[y, .bool (decide (NextOk o l.length))]⟩ ∧ Own fS 1 9 w.heap.size w' y (chV o l.length) := fun hn w' =>
    ⟨_, by rw [decide_eq_false hn], by rw [chV, if_neg hn]; exact Own.nil fS_len⟩
  (refine callsV_of mix Try.func203 c_ichangesIn ?_; simp only [↓vsd, vsn, gW, qd, qv, ev, pick, argE, zipE, ne_eq, eq_self, forall_const, implies_true, if_true, if_false, reduceIte, reduceCtorEq, Nat.reduceEqDiff, Nat.reduceAdd, Nat.reduceLT, ↓us_ichangesIn, r_ichangesIn])
  have h8 := hr.2
  by_cases h2 : l.length < 2
  · have h2I : (l.length : Int) < 2 := by omega
    simp only [↓vsd, vsn, gW, qd, qv, ev, pick, argE, zipE, ne_eq, eq_self, forall_const, implies_true, if_true, if_false, reduceIte, reduceCtorEq, Nat.reduceEqDiff, Nat.reduceAdd, Nat.reduceLT, ↓us_ichangesIn, r_ichangesIn, h.facts, h2I]
    refine ⟨Ext.refl _, hno (fun hh => ?_) _⟩
    have h1 : l.length = 1 := by have := hh.1; omega
    have h3 := ho 0 (by omega)
    rw [h1] at h3
    have h4 := hh.2 0 (by omega)
    rw [leads_self h3] at h4
    cases h4
  · have h2I : ¬ (l.length : Int) < 2 := by omega
    simp only [↓vsd, vsn, gW, qd, qv, ev, pick, argE, zipE, ne_eq, eq_self, forall_const, implies_true, if_true, if_false, reduceIte, reduceCtorEq, Nat.reduceEqDiff, Nat.reduceAdd, Nat.reduceLT, ↓us_ichangesIn, r_ichangesIn, h.facts, h2I]
    refine m_bsl (by simp) ?_
    rintro b1 w1 hb1 hblk1 hx1 hs1
    have hq1 := h.ext hx1
    simp only [↓vsd, vsn, gW, qd, qv, ev, pick, argE, zipE, ne_eq, eq_self, forall_const, implies_true, if_true, if_false, reduceIte, reduceCtorEq, Nat.reduceEqDiff, Nat.reduceAdd, Nat.reduceLT, ↓us_ichangesIn, r_ichangesIn, hq1.facts]
    refine m_upto l.length (fun i vs w' => ∃ y, vs = [y, .int .i64 i] ∧ Own fS 1 9 w.heap.size w' y (chL o i) ∧ (∀ j < i, (o j).isSome = true) ∧ Ext w w') ⟨_, rfl, (Own.empty fS_len hblk1 (by omega)).to rfl, (fun j hj => by omega), hx1⟩ ?_
    rintro i vs w2 hi ⟨y, rfl, ho2, hall, hx2⟩
    have hq2 := h.ext hx2
    by_cases hlt : i < l.length
    · have hltI : (i : Int) < l.length := by omega
      have hltJ : ¬ (l.length : Int) ≤ i := by omega
      have hmod : ((i : Int) + 1).tmod (l.length : Int) = (((i + 1) % l.length : Nat) : Int) := (Int.ofNat_tmod (i + 1) l.length).symm
      have hml : (i + 1) % l.length < l.length := Nat.mod_lt _ (by omega)
      have hri := hr.1 _ (getD_mem [] hlt)
      have hrm := hr.1 _ (getD_mem [] hml)
      have hle : (l.getD i []).length = (l.getD ((i + 1) % l.length) []).length := by rw [hri.2, hrm.2]
      obtain ⟨x, hbx, hxc⟩ := btwV_leads hri.1 hrm.1 hle (ho i hlt)
      have hcl := chL_len o i
      simp only [↓vsd, vsn, gW, qd, qv, ev, pick, argE, zipE, ne_eq, eq_self, forall_const, implies_true, if_true, if_false, reduceIte, reduceCtorEq, Nat.reduceEqDiff, Nat.reduceAdd, Nat.reduceLT, ↓us_ichangesIn, r_ichangesIn, hltI, hltJ, hmod, hq2.facts, hq2.at1 [] hlt, hq2.at1 [] hml]
      refine ⟨by omega, inR_i64 (by omega), by omega, ⟨by omega, by omega⟩, m_call (ibetween_ok _ _ hri.1 hle _) ?_⟩
      rintro re w3 hx3 hre
      rw [hbx] at hre
      subst hre
      have hx3 : Ext w2 w3 := by first | exact hx3 | exact ud hx3 | exact ud (ud hx3)
      have hx03 := hx2.trans hx3
      cases hoi : o i with
      | some c =>
        have hxe : x = c := hxc c hoi
        subst hxe
        have hsn := chL_succ o i hoi
        simp only [↓vsd, vsn, gW, qd, qv, ev, pick, argE, zipE, ne_eq, eq_self, forall_const, implies_true, if_true, if_false, reduceIte, reduceCtorEq, Nat.reduceEqDiff, Nat.reduceAdd, Nat.reduceLT, ↓us_ichangesIn, r_ichangesIn, Option.isSome]
        refine m_bsl (one_el rfl) ?_
        rintro b4 w4 hb4 hblk4 hx4 hs4
        have hx4 : Ext w3 w4 := by first | exact hx4 | exact ud hx4 | exact ud (ud hx4)
        simp only [↓vsd, vsn, gW, qd, qv, ev, pick, argE, zipE, ne_eq, eq_self, forall_const, implies_true, if_true, if_false, reduceIte, reduceCtorEq, Nat.reduceEqDiff, Nat.reduceAdd, Nat.reduceLT, ↓us_ichangesIn, r_ichangesIn]
        have ho4 := (ho2.ext hx3).ext hx4
        refine m_app ho4 (Sq.one fS_len hblk4 rfl) fS_one (by decide) (by rw [List.length_singleton]; omega) (by decide) (hx03.trans hx4).size ?_
        rintro y5 w5 ho5 hg5
        have hx5 := ho4.grown (hx03.trans hx4) (Nat.le_refl _) hg5
        simp only [↓vsd, vsn, gW, qd, qv, ev, pick, argE, zipE, ne_eq, eq_self, forall_const, implies_true, if_true, if_false, reduceIte, reduceCtorEq, Nat.reduceEqDiff, Nat.reduceAdd, Nat.reduceLT, ↓us_ichangesIn, r_ichangesIn]
        exact ⟨inR_i64 (by omega), UpTo.next hlt ⟨y5, rfl, ho5.to hsn.symm, fun j hj => by
          by_cases hji : j = i
          · simp [hji, hoi]
          · exact hall j (by omega), hx5⟩⟩
      | none =>
        simp only [↓vsd, vsn, gW, qd, qv, ev, pick, argE, zipE, ne_eq, eq_self, forall_const, implies_true, if_true, if_false, reduceIte, reduceCtorEq, Nat.reduceEqDiff, Nat.reduceAdd, Nat.reduceLT, ↓us_ichangesIn, r_ichangesIn, Option.isSome]
        exact ⟨hx03, hno (fun hh => by have := hh.2 i hlt; rw [hoi] at this; cases this) _⟩
    · obtain rfl : i = l.length := by omega
      have hltI : ¬ (l.length : Int) < l.length := by omega
      have hok : NextOk o l.length := ⟨by omega, hall⟩
      simp only [↓vsd, vsn, gW, qd, qv, ev, pick, argE, zipE, ne_eq, eq_self, forall_const, implies_true, if_true, if_false, reduceIte, reduceCtorEq, Nat.reduceEqDiff, Nat.reduceAdd, Nat.reduceLT, ↓us_ichangesIn, r_ichangesIn, hltI]
      exact ⟨hx2, y, by rw [decide_eq_true hok], by rw [chV, if_pos hok]; exact ho2⟩
theorem sl7Changes_all (v : Value) (l : List Bs) (o : Nat → Option Bs) (hr : IsRows l) (ho : LeadsIn l o) (w : World) (h : Sq fS 1 w v l) : Fn 204 [v] w (fun r w' => ∃ y, r = .tuple ⟨[y, .bool (decide (NextOk o l.length))]⟩ ∧ (NextOk o l.length → Own fS 1 9 w.heap.size w' y (chV o l.length)) ∧ (¬ NextOk o l.length → y = .slice none 0 0)) := by
  (refine callsV_of mix Try.func204 c_sl7Changes ?_; simp only [↓vsd, vsn, gW, qd, qv, ev, pick, argE, zipE, ne_eq, eq_self, forall_const, implies_true, if_true, if_false, reduceIte, reduceCtorEq, Nat.reduceEqDiff, Nat.reduceAdd, Nat.reduceLT, ↓us_sl7Changes, r_sl7Changes])
  have h8 := hr.2
  simp only [↓vsd, vsn, gW, qd, qv, ev, pick, argE, zipE, ne_eq, eq_self, forall_const, implies_true, if_true, if_false, reduceIte, reduceCtorEq, Nat.reduceEqDiff, Nat.reduceAdd, Nat.reduceLT, ↓us_sl7Changes, r_sl7Changes, h.facts]
  refine m_upto l.length (fun i vs w' => ∃ y, vs = [y, .int .i64 i] ∧ Own fS 1 9 w.heap.size w' y (chL o i) ∧ (i = 0 → y = .slice none 0 0) ∧ (∀ j < i, (o j).isSome = true) ∧ Ext w w') ⟨_, rfl, (Own.nil fS_len).to rfl, (fun _ => rfl), (fun j hj => by omega), Ext.refl _⟩ ?_
  rintro i vs w2 hi ⟨y, rfl, ho2, hy0, hall, hx2⟩
  have hq2 := h.ext hx2
  by_cases hlt : i < l.length
  · have hltI : (i : Int) < l.length := by omega
    have hltJ : ¬ (l.length : Int) ≤ i := by omega
    have hmod : ((i : Int) + 1).tmod (l.length : Int) = (((i + 1) % l.length : Nat) : Int) := (Int.ofNat_tmod (i + 1) l.length).symm
    have hml : (i + 1) % l.length < l.length := Nat.mod_lt _ (by omega)
    have hcl := chL_len o i
    have hoi := ho i hlt
    simp only [↓vsd, vsn, gW, qd, qv, ev, pick, argE, zipE, ne_eq, eq_self, forall_const, implies_true, if_true, if_false, reduceIte, reduceCtorEq, Nat.reduceEqDiff, Nat.reduceAdd, Nat.reduceLT, ↓us_sl7Changes, r_sl7Changes, hltI, hltJ, hmod, hq2.facts, hq2.at1 [] hlt, hq2.at1 [] hml]
    refine ⟨by omega, inR_i64 (by omega), by omega, ⟨by omega, by omega⟩, m_call (sBetweenRows_all _ _ (o i) hoi _) ?_⟩
    rintro re w3 hx3 rfl
    have hx3 : Ext w2 w3 := by first | exact hx3 | exact ud hx3 | exact ud (ud hx3)
    have hx03 := hx2.trans hx3
    cases hoe : o i with
    | some c =>
      have hsn := chL_succ o i hoe
      rw [leadsV]
      simp only [↓vsd, vsn, gW, qd, qv, ev, pick, argE, zipE, ne_eq, eq_self, forall_const, implies_true, if_true, if_false, reduceIte, reduceCtorEq, Nat.reduceEqDiff, Nat.reduceAdd, Nat.reduceLT, ↓us_sl7Changes, r_sl7Changes]
      refine m_bsl (one_el rfl) ?_
      rintro b4 w4 hb4 hblk4 hx4 hs4
      have hx4 : Ext w3 w4 := by first | exact hx4 | exact ud hx4 | exact ud (ud hx4)
      simp only [↓vsd, vsn, gW, qd, qv, ev, pick, argE, zipE, ne_eq, eq_self, forall_const, implies_true, if_true, if_false, reduceIte, reduceCtorEq, Nat.reduceEqDiff, Nat.reduceAdd, Nat.reduceLT, ↓us_sl7Changes, r_sl7Changes]
      have ho4 := (ho2.ext hx3).ext hx4
      refine m_app ho4 (Sq.one fS_len hblk4 rfl) fS_one (by decide) (by rw [List.length_singleton]; omega) (by decide) (hx03.trans hx4).size ?_
      rintro y5 w5 ho5 hg5
      have hx5 := ho4.grown (hx03.trans hx4) (Nat.le_refl _) hg5
      simp only [↓vsd, vsn, gW, qd, qv, ev, pick, argE, zipE, ne_eq, eq_self, forall_const, implies_true, if_true, if_false, reduceIte, reduceCtorEq, Nat.reduceEqDiff, Nat.reduceAdd, Nat.reduceLT, ↓us_sl7Changes, r_sl7Changes]
      exact ⟨inR_i64 (by omega), UpTo.next hlt ⟨y5, rfl, ho5.to hsn.symm, (fun hh => by omega), fun j hj => by
        by_cases hji : j = i
        · simp [hji, hoe]
        · exact hall j (by omega), hx5⟩⟩
    | none =>
      have hn : ¬ NextOk o l.length := fun hh => by have := hh.2 i hlt; rw [hoe] at this; cases this
      rw [leadsV]
      simp only [↓vsd, vsn, gW, qd, qv, ev, pick, argE, zipE, ne_eq, eq_self, forall_const, implies_true, if_true, if_false, reduceIte, reduceCtorEq, Nat.reduceEqDiff, Nat.reduceAdd, Nat.reduceLT, ↓us_sl7Changes, r_sl7Changes]
      exact ⟨hx03, _, by rw [decide_eq_false hn], fun hh => absurd hh hn, fun _ => rfl⟩
  · obtain rfl : i = l.length := by omega
    have hltI : ¬ (l.length : Int) < l.length := by omega
    simp only [↓vsd, vsn, gW, qd, qv, ev, pick, argE, zipE, ne_eq, eq_self, forall_const, implies_true, if_true, if_false, reduceIte, reduceCtorEq, Nat.reduceEqDiff, Nat.reduceAdd, Nat.reduceLT, ↓us_sl7Changes, r_sl7Changes, hltI, hq2.facts]
    by_cases h0 : 0 < l.length
    · have hok : NextOk o l.length := ⟨h0, hall⟩
      have hd : decide ((0 : Int) < (l.length : Nat)) = true := decide_eq_true (by omega)
      exact ⟨hx2, y, by rw [decide_eq_true hok, hd], fun _ => by rw [chV, if_pos hok]; exact ho2, fun hh => absurd hok hh⟩
    · have hok : ¬ NextOk o l.length := fun hh => h0 hh.1
      have hd : decide ((0 : Int) < (l.length : Nat)) = false := decide_eq_false (by omega)
      exact ⟨hx2, y, by rw [decide_eq_false hok, hd], fun hh => absurd hh hok, fun _ => hy0 (by omega)⟩
def arnV (l : List Bs) (o : Nat → Option Bs) : Value := .tuple ⟨[.bool (decide (IsRows l ∧ NextOk o l.length)), .bool (decide (IsRows l))]⟩
theorem iAreNext_all (v : Value) (l : List Bs) (o : Nat → Option Bs) (hl : l.length ≤ 1000000000) (ho : LeadsIn l o) (w : World) (h : Sq fS 1 w v l) : Fn 79 [v] w (fun r _ => r = arnV l o) := by
  (refine callsV_of mix Try.func79 c_iAreNext ?_; simp only [↓vsd, vsn, gW, qd, qv, ev, pick, argE, zipE, ne_eq, eq_self, forall_const, implies_true, if_true, if_false, reduceIte, reduceCtorEq, Nat.reduceEqDiff, Nat.reduceAdd, Nat.reduceLT, ↓us_iAreNext, r_iAreNext])
  refine m_call (iGoodRows_ok v l hl _ h) ?_
  rintro _ w1 hx1 rfl
  by_cases hr : IsRows l
  · simp only [↓vsd, vsn, gW, qd, qv, ev, pick, argE, zipE, ne_eq, eq_self, forall_const, implies_true, if_true, if_false, reduceIte, reduceCtorEq, Nat.reduceEqDiff, Nat.reduceAdd, Nat.reduceLT, ↓us_iAreNext, r_iAreNext, hr]
    refine m_call (ichangesIn_all v l o hr ho _ (by first | exact h.ext hx1 | exact h.ext (dr hx1))) ?_
    rintro _ w2 hx2 ⟨y, rfl, _⟩
    have hx2 : Ext w1 w2 := by first | exact hx2 | exact ud hx2 | exact ud (ud hx2)
    simp only [↓vsd, vsn, gW, qd, qv, ev, pick, argE, zipE, ne_eq, eq_self, forall_const, implies_true, if_true, if_false, reduceIte, reduceCtorEq, Nat.reduceEqDiff, Nat.reduceAdd, Nat.reduceLT, ↓us_iAreNext, r_iAreNext]
    exact ⟨hx1.trans hx2, by unfold arnV; simp only [hr, true_and, decide_true]⟩
  · simp only [↓vsd, vsn, gW, qd, qv, ev, pick, argE, zipE, ne_eq, eq_self, forall_const, implies_true, if_true, if_false, reduceIte, reduceCtorEq, Nat.reduceEqDiff, Nat.reduceAdd, Nat.reduceLT, ↓us_iAreNext, r_iAreNext, hr]
    exact ⟨hx1, by unfold arnV; simp only [hr, false_and, decide_false]⟩
theorem sAreNext_all (v : Value) (l : List Bs) (o : Nat → Option Bs) (hl : l.length ≤ 1000000000) (ho : LeadsIn l o) (w : World) (h : Sq fS 1 w v l) : Fn 80 [v] w (fun r _ => r = arnV l o) := by
  (refine callsV_of mix Try.func80 c_sAreNext ?_; simp only [↓vsd, vsn, gW, qd, qv, ev, pick, argE, zipE, ne_eq, eq_self, forall_const, implies_true, if_true, if_false, reduceIte, reduceCtorEq, Nat.reduceEqDiff, Nat.reduceAdd, Nat.reduceLT, ↓us_sAreNext, r_sAreNext])
  refine m_call (sl6Rows_ok v l hl _ h) ?_
  rintro _ w1 hx1 rfl
  by_cases hr : IsRows l
  · simp only [↓vsd, vsn, gW, qd, qv, ev, pick, argE, zipE, ne_eq, eq_self, forall_const, implies_true, if_true, if_false, reduceIte, reduceCtorEq, Nat.reduceEqDiff, Nat.reduceAdd, Nat.reduceLT, ↓us_sAreNext, r_sAreNext, hr]
    refine m_call (sl7Changes_all v l o hr ho _ (by first | exact h.ext hx1 | exact h.ext (dr hx1))) ?_
    rintro _ w2 hx2 ⟨y, rfl, _⟩
    have hx2 : Ext w1 w2 := by first | exact hx2 | exact ud hx2 | exact ud (ud hx2)
    simp only [↓vsd, vsn, gW, qd, qv, ev, pick, argE, zipE, ne_eq, eq_self, forall_const, implies_true, if_true, if_false, reduceIte, reduceCtorEq, Nat.reduceEqDiff, Nat.reduceAdd, Nat.reduceLT, ↓us_sAreNext, r_sAreNext]
    exact ⟨hx1.trans hx2, by unfold arnV; simp only [hr, true_and, decide_true]⟩
  · simp only [↓vsd, vsn, gW, qd, qv, ev, pick, argE, zipE, ne_eq, eq_self, forall_const, implies_true, if_true, if_false, reduceIte, reduceCtorEq, Nat.reduceEqDiff, Nat.reduceAdd, Nat.reduceLT, ↓us_sAreNext, r_sAreNext, hr]
    exact ⟨hx1, by unfold arnV; simp only [hr, false_and, decide_false]⟩
def ChaOk (l : List Bs) (o : Nat → Option Bs) : Prop := IsRows l ∧ NextOk o l.length
instance (l : List Bs) (o : Nat → Option Bs) : Decidable (ChaOk l o) := by unfold ChaOk IsRows; infer_instance
def chaV (l : List Bs) (o : Nat → Option Bs) : List Bs := if ChaOk l o then chL o l.length else []
theorem iChangesIn_ok (v : Value) (l : List Bs) (o : Nat → Option Bs) (hl : l.length ≤ 1000000000) (ho : LeadsIn l o) (w : World) (h : Sq fS 1 w v l) : Fn 81 [v] w (fun r w' => ∃ y, r = .tuple ⟨[y, .bool (decide (ChaOk l o))]⟩ ∧ Own fS 1 9 w.heap.size w' y (chaV l o)) := by
  (refine callsV_of mix Try.func81 c_iChangesIn ?_; simp only [↓vsd, vsn, gW, qd, qv, ev, pick, argE, zipE, ne_eq, eq_self, forall_const, implies_true, if_true, if_false, reduceIte, reduceCtorEq, Nat.reduceEqDiff, Nat.reduceAdd, Nat.reduceLT, ↓us_iChangesIn, r_iChangesIn])
  refine m_call (iGoodRows_ok v l hl _ h) ?_
  rintro _ w1 hx1 rfl
  by_cases hr : IsRows l
  · simp only [↓vsd, vsn, gW, qd, qv, ev, pick, argE, zipE, ne_eq, eq_self, forall_const, implies_true, if_true, if_false, reduceIte, reduceCtorEq, Nat.reduceEqDiff, Nat.reduceAdd, Nat.reduceLT, ↓us_iChangesIn, r_iChangesIn, hr]
    refine m_call (ichangesIn_all v l o hr ho _ (by first | exact h.ext hx1 | exact h.ext (dr hx1))) ?_
    rintro _ w2 hx2 ⟨y, rfl, ho2⟩
    have hx2 : Ext w1 w2 := by first | exact hx2 | exact ud hx2 | exact ud (ud hx2)
    simp only [↓vsd, vsn, gW, qd, qv, ev, pick, argE, zipE, ne_eq, eq_self, forall_const, implies_true, if_true, if_false, reduceIte, reduceCtorEq, Nat.reduceEqDiff, Nat.reduceAdd, Nat.reduceLT, ↓us_iChangesIn, r_iChangesIn]
    refine ⟨hx1.trans hx2, y, ?_, ?_⟩
    · rw [decide_eq_decide.2 (show NextOk o l.length ↔ ChaOk l o from ⟨fun hh => ⟨hr, hh⟩, fun hh => hh.2⟩)]
    · have e : chaV l o = chV o l.length := by
        unfold chaV chV
        by_cases hn : NextOk o l.length
        · rw [if_pos hn, if_pos ⟨hr, hn⟩]
        · rw [if_neg hn, if_neg (fun hh => hn hh.2)]
      rw [e]; exact ho2.mono hx1.size
  · have hn : ¬ ChaOk l o := fun hh => hr hh.1
    simp only [↓vsd, vsn, gW, qd, qv, ev, pick, argE, zipE, ne_eq, eq_self, forall_const, implies_true, if_true, if_false, reduceIte, reduceCtorEq, Nat.reduceEqDiff, Nat.reduceAdd, Nat.reduceLT, ↓us_iChangesIn, r_iChangesIn, hr]
    exact ⟨hx1, _, by rw [decide_eq_false hn], by rw [chaV, if_neg hn]; exact Own.nil fS_len⟩
theorem sChangesIn_ok (v : Value) (l : List Bs) (o : Nat → Option Bs) (hl : l.length ≤ 1000000000) (ho : LeadsIn l o) (w : World) (h : Sq fS 1 w v l) : Fn 82 [v] w (fun r w' => ∃ y, r = .tuple ⟨[y, .bool (decide (ChaOk l o))]⟩ ∧ Own fS 1 9 w.heap.size w' y (chaV l o)) := by
  (refine callsV_of mix Try.func82 c_sChangesIn ?_; simp only [↓vsd, vsn, gW, qd, qv, ev, pick, argE, zipE, ne_eq, eq_self, forall_const, implies_true, if_true, if_false, reduceIte, reduceCtorEq, Nat.reduceEqDiff, Nat.reduceAdd, Nat.reduceLT, ↓us_sChangesIn, r_sChangesIn])
  refine m_call (sl6Rows_ok v l hl _ h) ?_
  rintro _ w1 hx1 rfl
  by_cases hr : IsRows l
  · simp only [↓vsd, vsn, gW, qd, qv, ev, pick, argE, zipE, ne_eq, eq_self, forall_const, implies_true, if_true, if_false, reduceIte, reduceCtorEq, Nat.reduceEqDiff, Nat.reduceAdd, Nat.reduceLT, ↓us_sChangesIn, r_sChangesIn, hr]
    refine m_call (sl7Changes_all v l o hr ho _ (by first | exact h.ext hx1 | exact h.ext (dr hx1))) ?_
    rintro _ w2 hx2 ⟨y, rfl, ho2, hn2⟩
    have hx2 : Ext w1 w2 := by first | exact hx2 | exact ud hx2 | exact ud (ud hx2)
    simp only [↓vsd, vsn, gW, qd, qv, ev, pick, argE, zipE, ne_eq, eq_self, forall_const, implies_true, if_true, if_false, reduceIte, reduceCtorEq, Nat.reduceEqDiff, Nat.reduceAdd, Nat.reduceLT, ↓us_sChangesIn, r_sChangesIn]
    refine ⟨hx1.trans hx2, y, ?_, ?_⟩
    · rw [decide_eq_decide.2 (show NextOk o l.length ↔ ChaOk l o from ⟨fun hh => ⟨hr, hh⟩, fun hh => hh.2⟩)]
    · by_cases hn : NextOk o l.length
      · have e : chaV l o = chV o l.length := by unfold chaV chV; rw [if_pos hn, if_pos ⟨hr, hn⟩]
        rw [e]; exact (ho2 hn).mono hx1.size
      · rw [chaV, if_neg (fun hh => hn hh.2), hn2 hn]; exact Own.nil fS_len
  · have hn : ¬ ChaOk l o := fun hh => hr hh.1
    simp only [↓vsd, vsn, gW, qd, qv, ev, pick, argE, zipE, ne_eq, eq_self, forall_const, implies_true, if_true, if_false, reduceIte, reduceCtorEq, Nat.reduceEqDiff, Nat.reduceAdd, Nat.reduceLT, ↓us_sChangesIn, r_sChangesIn, hr]
    exact ⟨hx1, _, by rw [decide_eq_false hn], by rw [chaV, if_neg hn]; exact Own.nil fS_len⟩
end Go.Proofs.Ytnincmnkdjlndaa
