/-
  Programs of calls: what the reference's reader computes.
  Conditions: none.
-/
import Derived.Test.YtnbnofmnbopknaaDoorA14
set_option linter.unusedSimpArgs false
set_option linter.unusedVariables false
set_option linter.defProp false
namespace Go.Proofs.YtnbnofmnbopknaaDoor
open Go Go.RowKit
section
variable (P : Program) (k : KT) (e : Env) (w : World)
abbrev b69_1 : X := (.cond (.t 7) (.seq (.reg [4] (.c (.q 8 [] (.mv (.t 0))) (.c (.q 4 [] (.mv (.t 8))) .nil))) .ret) .skip)
def t69_1 := b69_1
theorem u69_1 : vcK P t69_1 k e w = vcK P b69_1 k e w := rfl
abbrev b69_2 : X := (.seq (.reg [4] (.c (.q 9 [] (.mv (.t 1))) (.c (.q 4 [] (.mv (.t 9))) .nil))) .ret)
def t69_2 := b69_2
theorem u69_2 : vcK P t69_2 k e w = vcK P b69_2 k e w := rfl
abbrev b69_3 : X := (.seq (.seq (.reg [0, 1, 7] (.c (.q 5 [] (.mv (.t 0))) (.c (.q 6 [] (.mv (.t 1))) (.c (.q 7 [] (.bin .gtr (.t 5) (.t 6))) .nil)))) t69_1) t69_2)
def t69_3 := b69_3
theorem u69_3 : vcK P t69_3 k e w = vcK P b69_3 k e w := rfl
abbrev b69_0 : X := (.seq (.reg [0, 1] (.c (.q 4 [] (.mv (.c (.int .i64 0)))) .nil)) t69_3)
def x_sl1Most := b69_0
theorem u69_0 : vcK P x_sl1Most k e w = vcK P b69_0 k e w := rfl
def r_sl1Most : List XO := [(.mv (.t 4))]
theorem c_sl1Most : convF Tryd.prog [27, 28, 29, 30, 32, 36, 40, 45, 46, 47, 50, 51, 52, 61, 62, 98] Tryd.f69 [([0, 1], []), ([0, 1, 7], []), ([4], []), ([4], [])] = some (x_sl1Most, r_sl1Most) := by kernel_rfl
def us_sl1Most :=  (aI (aI @u69_0 @u69_1) (aI @u69_2 @u69_3))
abbrev b38_1 : X := (.seq (.reg [2] (.c (.q 3 [] (.mv (.t 0))) (.c (.q 4 [] (.bin .eql (.t 3) (.s [112]))) (.c (.q 5 [] (.mv (.t 4))) (.c (.q 6 [(5, false)] (.mv (.t 0))) (.c (.q 7 [(5, false)] (.bin .eql (.t 6) (.s [98]))) (.c (.q 8 [] (.pick (.t 5) (.c (.bool true)) (.t 7))) (.c (.q 9 [] (.mv (.t 8))) (.c (.q 10 [(9, false)] (.mv (.t 0))) (.c (.q 11 [(9, false)] (.bin .eql (.t 10) (.s [115]))) (.c (.q 12 [] (.pick (.t 9) (.c (.bool true)) (.t 11))) (.c (.q 2 [] (.mv (.t 12))) .nil)))))))))))) .ret)
def t38_1 := b38_1
theorem u38_1 : vcK P t38_1 k e w = vcK P b38_1 k e w := rfl
abbrev b38_0 : X := (.seq (.reg [0] (.c (.q 2 [] (.mv (.c (.bool false)))) .nil)) t38_1)
def x_sl8Call := b38_0
theorem u38_0 : vcK P x_sl8Call k e w = vcK P b38_0 k e w := rfl
def r_sl8Call : List XO := [(.mv (.t 2))]
theorem c_sl8Call : convF Tryd.prog [27, 28, 29, 30, 32, 36, 40, 45, 46, 47, 50, 51, 52, 61, 62, 98] Tryd.f38 [([0], []), ([2], [])] = some (x_sl8Call, r_sl8Call) := by kernel_rfl
def us_sl8Call :=  (aI @u38_0 @u38_1)
abbrev b22_1 : X := (.cond (.t 7) .skip (.exit 0))
def t22_1 := b22_1
theorem u22_1 : vcK P t22_1 k e w = vcK P b22_1 k e w := rfl
abbrev b22_2 : X := (.cond (.t 16) (.seq (.reg [2] (.c (.q 2 [] (.mv (.c (.bool false)))) .nil)) .ret) .skip)
def t22_2 := b22_2
theorem u22_2 : vcK P t22_2 k e w = vcK P b22_2 k e w := rfl
abbrev b22_3 : X := (.reg [0, 3] (.c (.q 8 [] (.mv (.t 3))) (.c (.q 9 [] (.bin .add (.t 8) (.c (.int .i64 1)))) (.c (.q 3 [] (.mv (.t 9))) .nil))))
def t22_3 := b22_3
theorem u22_3 : vcK P t22_3 k e w = vcK P b22_3 k e w := rfl
abbrev b22_4 : X := (.seq (.blk 1 (.seq (.reg [0, 3, 16] (.c (.q 10 [] (.mv (.t 0))) (.c (.q 11 [] (.mv (.t 3))) (.c (.q 12 [] (.mv (.t 3))) (.c (.q 13 [] (.bin .add (.t 12) (.c (.int .i64 1)))) (.c (.q 14 [] (.sub (.t 10) (some (.t 11)) (some (.t 13)))) (.c (.e (some 15) [] (.call false 38 [(.t 14)])) (.c (.q 16 [] (.not (.t 15))) .nil)))))))) t22_2)) t22_3)
def t22_4 := b22_4
theorem u22_4 : vcK P t22_4 k e w = vcK P b22_4 k e w := rfl
abbrev b22_5 : X := (.seq (.seq (.reg [0, 3, 7] (.c (.q 4 [] (.mv (.t 3))) (.c (.q 5 [] (.mv (.t 0))) (.c (.q 6 [] (.len (.t 5))) (.c (.q 7 [] (.bin .lss (.t 4) (.t 6))) .nil))))) t22_1) t22_4)
def t22_5 := b22_5
theorem u22_5 : vcK P t22_5 k e w = vcK P b22_5 k e w := rfl
abbrev b22_6 : X := (.blk 0 (.loop [3] [0] t22_5))
def t22_6 := b22_6
theorem u22_6 : vcK P t22_6 k e w = vcK P b22_6 k e w := rfl
abbrev b22_7 : X := (.seq (.reg [2] (.c (.q 17 [] (.mv (.t 0))) (.c (.q 18 [] (.len (.t 17))) (.c (.e (some 19) [] (.call false 39 [(.t 18), (.c (.int .i64 1)), (.c (.int .i64 60))])) (.c (.q 2 [] (.mv (.t 19))) .nil))))) .ret)
def t22_7 := b22_7
theorem u22_7 : vcK P t22_7 k e w = vcK P b22_7 k e w := rfl
abbrev b22_8 : X := (.seq (.seq (.reg [0, 3] (.c (.q 3 [] (.mv (.c (.int .i64 0)))) .nil)) t22_6) t22_7)
def t22_8 := b22_8
theorem u22_8 : vcK P t22_8 k e w = vcK P b22_8 k e w := rfl
abbrev b22_0 : X := (.seq (.reg [0] (.c (.q 2 [] (.mv (.c (.bool false)))) .nil)) t22_8)
def x_sl9Good := b22_0
theorem u22_0 : vcK P x_sl9Good k e w = vcK P b22_0 k e w := rfl
def r_sl9Good : List XO := [(.mv (.t 2))]
theorem c_sl9Good : convF Tryd.prog [27, 28, 29, 30, 32, 36, 40, 45, 46, 47, 50, 51, 52, 61, 62, 98] Tryd.f22 [([0], []), ([0, 3], []), ([3], [0]), ([0, 3, 7], []), ([0, 3, 16], []), ([2], []), ([0, 3], []), ([2], [])] = some (x_sl9Good, r_sl9Good) := by kernel_rfl
def us_sl9Good :=  (aI (aI (aI @u22_0 @u22_1) (aI @u22_2 @u22_3)) (aI (aI @u22_4 @u22_5) (aI @u22_6 (aI @u22_7 @u22_8))))
abbrev b35_1 : X := (.cond (.t 16) (.seq (.reg [4] (.c (.q 17 [] (.mv (.t 5))) (.c (.q 4 [] (.mv (.t 17))) .nil))) .ret) .skip)
def t35_1 := b35_1
theorem u35_1 : vcK P t35_1 k e w = vcK P b35_1 k e w := rfl
abbrev b35_2 : X := (.seq (.reg [1, 5, 7, 8, 9, 16] (.c (.q 14 [] (.mv (.t 6))) (.c (.q 15 [] (.mv (.t 1))) (.c (.q 16 [] (.bin .eql (.t 14) (.t 15))) .nil)))) t35_1)
def t35_2 := b35_2
theorem u35_2 : vcK P t35_2 k e w = vcK P b35_2 k e w := rfl
abbrev b35_3 : X := (.reg [1, 7, 8, 9] (.c (.q 18 [] (.bin .add (.t 9) (.c (.int .i64 1)))) (.c (.q 9 [] (.mv (.t 18))) .nil)))
def t35_3 := b35_3
theorem u35_3 : vcK P t35_3 k e w = vcK P b35_3 k e w := rfl
abbrev b35_4 : X := (.seq (.blk 1 (.seq (.reg [1, 5, 6, 7, 8, 9] (.c (.q 11 [] (.mv (.t 9))) (.c (.q 12 [] (.ia 1 (.t 7) (.t 9))) (.c (.q 13 [] (.ld (.t 12))) (.c (.q 5 [] (.mv (.t 11))) (.c (.q 6 [] (.mv (.t 13))) .nil)))))) t35_2)) t35_3)
def t35_4 := b35_4
theorem u35_4 : vcK P t35_4 k e w = vcK P b35_4 k e w := rfl
abbrev b35_5 : X := (.seq (.cond (.t 10) .skip (.exit 0)) t35_4)
def t35_5 := b35_5
theorem u35_5 : vcK P t35_5 k e w = vcK P b35_5 k e w := rfl
abbrev b35_6 : X := (.seq (.reg [1, 7, 8, 9, 10] (.c (.q 10 [] (.bin .lss (.t 9) (.t 8))) .nil)) t35_5)
def t35_6 := b35_6
theorem u35_6 : vcK P t35_6 k e w = vcK P b35_6 k e w := rfl
abbrev b35_7 : X := (.blk 0 (.loop [9] [1, 7, 8] t35_6))
def t35_7 := b35_7
theorem u35_7 : vcK P t35_7 k e w = vcK P b35_7 k e w := rfl
abbrev b35_8 : X := (.seq (.reg [4] (.c (.q 4 [] (.mv (.c (.int .i64 (-1))))) .nil)) .ret)
def t35_8 := b35_8
theorem u35_8 : vcK P t35_8 k e w = vcK P b35_8 k e w := rfl
abbrev b35_9 : X := (.seq (.seq (.reg [1, 7, 8, 9] (.c (.q 7 [] (.mv (.t 0))) (.c (.q 8 [] (.lens (.t 7))) (.c (.q 9 [] (.mv (.c (.int .i64 0)))) .nil)))) t35_7) t35_8)
def t35_9 := b35_9
theorem u35_9 : vcK P t35_9 k e w = vcK P b35_9 k e w := rfl
abbrev b35_0 : X := (.seq (.reg [0, 1] (.c (.q 4 [] (.mv (.c (.int .i64 0)))) .nil)) t35_9)
def x_sl10At := b35_0
theorem u35_0 : vcK P x_sl10At k e w = vcK P b35_0 k e w := rfl
def r_sl10At : List XO := [(.mv (.t 4))]
theorem c_sl10At : convF Tryd.prog [27, 28, 29, 30, 32, 36, 40, 45, 46, 47, 50, 51, 52, 61, 62, 98] Tryd.f35 [([0, 1], []), ([1, 7, 8, 9], []), ([9], [1, 7, 8]), ([1, 7, 8, 9, 10], []), ([1, 5, 6, 7, 8, 9], []), ([1, 5, 7, 8, 9, 16], []), ([4], []), ([1, 7, 8, 9], []), ([4], [])] = some (x_sl10At, r_sl10At) := by kernel_rfl
def us_sl10At :=  (aI (aI (aI @u35_0 @u35_1) (aI @u35_2 (aI @u35_3 @u35_4))) (aI (aI @u35_5 @u35_6) (aI @u35_7 (aI @u35_8 @u35_9))))
abbrev b37_1 : X := (.cond (.t 12) (.seq (.drw [2] (.c (.q 13 [] (.mv (.t 0))) (.c (.q 14 [] (.nil (.t 13))) (.c (.q 15 [] (.fa 0 (.t 14))) (.c (.q 16 [] (.ld (.t 15))) (.c (.q 17 [] (.mv (.t 0))) (.c (.q 18 [] (.nil (.t 17))) (.c (.q 19 [] (.fa 1 (.t 18))) (.c (.q 20 [] (.ld (.t 19))) (.c (.q 21 [] (.idx (.t 16) (.t 20))) (.c (.q 2 [] (.mv (.t 21))) .nil))))))))))) .ret) .skip)
def t37_1 := b37_1
theorem u37_1 : vcK P t37_1 k e w = vcK P b37_1 k e w := rfl
abbrev b37_2 : X := (.seq (.reg [2] (.c (.q 2 [] (.mv (.c (.int .u8 0)))) .nil)) .ret)
def t37_2 := b37_2
theorem u37_2 : vcK P t37_2 k e w = vcK P b37_2 k e w := rfl
abbrev b37_3 : X := (.seq (.seq (.drw [0, 12] (.c (.q 3 [] (.mv (.t 0))) (.c (.q 4 [] (.nil (.t 3))) (.c (.q 5 [] (.fa 1 (.t 4))) (.c (.q 6 [] (.ld (.t 5))) (.c (.q 7 [] (.mv (.t 0))) (.c (.q 8 [] (.nil (.t 7))) (.c (.q 9 [] (.fa 0 (.t 8))) (.c (.q 10 [] (.ld (.t 9))) (.c (.q 11 [] (.len (.t 10))) (.c (.q 12 [] (.bin .lss (.t 6) (.t 11))) .nil))))))))))) t37_1) t37_2)
def t37_3 := b37_3
theorem u37_3 : vcK P t37_3 k e w = vcK P b37_3 k e w := rfl
abbrev b37_0 : X := (.seq (.reg [0] (.c (.q 2 [] (.mv (.c (.int .u8 0)))) .nil)) t37_3)
def x_sl10R_peek := b37_0
theorem u37_0 : vcK P x_sl10R_peek k e w = vcK P b37_0 k e w := rfl
def r_sl10R_peek : List XO := [(.mv (.t 2))]
theorem c_sl10R_peek : convF Tryd.prog [27, 28, 29, 30, 32, 36, 40, 45, 46, 47, 50, 51, 52, 61, 62, 98] Tryd.f37 [([0], []), ([0, 12], []), ([2], []), ([2], [])] = some (x_sl10R_peek, r_sl10R_peek) := by kernel_rfl
def us_sl10R_peek :=  (aI (aI @u37_0 @u37_1) (aI @u37_2 @u37_3))
abbrev b50_1 : X := (.seq (.reg [2] (.c (.q 2 [] (.mv (.s []))) .nil)) .ret)
def t50_1 := b50_1
theorem u50_1 : vcK P t50_1 k e w = vcK P b50_1 k e w := rfl
abbrev b50_2 : X := (.cond (.t 66) (.seq (.reg [] (.c (.q 67 [] (.mv (.t 0))) (.c (.q 68 [] (.nil (.t 67))) (.c (.q 69 [] (.fa 2 (.t 68))) (.c (.e none [] (.st 1 (.t 69) (.c (.bool true)))) .nil))))) t50_1) .skip)
def t50_2 := b50_2
theorem u50_2 : vcK P t50_2 k e w = vcK P b50_2 k e w := rfl
abbrev b50_3 : X := (.seq (.reg [2] (.c (.q 70 [] (.mv (.t 0))) (.c (.q 71 [] (.nil (.t 70))) (.c (.q 72 [] (.fa 4 (.t 71))) (.c (.q 73 [] (.ld (.t 72))) (.c (.q 74 [] (.mv (.t 4))) (.c (.q 75 [] (.ia 1 (.t 73) (.t 74))) (.c (.q 76 [] (.ld (.t 75))) (.c (.q 2 [] (.mv (.t 76))) .nil))))))))) .ret)
def t50_3 := b50_3
theorem u50_3 : vcK P t50_3 k e w = vcK P b50_3 k e w := rfl
abbrev b50_4 : X := (.seq (.seq (.reg [0, 4, 66] (.c (.q 65 [] (.mv (.t 4))) (.c (.q 66 [] (.bin .lss (.t 65) (.c (.int .i64 0)))) .nil))) t50_2) t50_3)
def t50_4 := b50_4
theorem u50_4 : vcK P t50_4 k e w = vcK P b50_4 k e w := rfl
abbrev b50_5 : X := (.cond (.t 77) (.seq (.reg [2] (.c (.q 80 [] (.mv (.t 0))) (.c (.e (some 81) [] (.call true 62 [(.t 80)])) (.c (.q 2 [] (.mv (.t 81))) .nil)))) .ret) .skip)
def t50_5 := b50_5
theorem u50_5 : vcK P t50_5 k e w = vcK P b50_5 k e w := rfl
abbrev b50_6 : X := (.cond (.t 39) (.seq (.drw [0, 4] (.c (.q 46 [] (.mv (.t 0))) (.c (.q 47 [] (.nil (.t 46))) (.c (.q 48 [] (.fa 3 (.t 47))) (.c (.q 49 [] (.ld (.t 48))) (.c (.q 50 [] (.mv (.t 0))) (.c (.q 51 [] (.nil (.t 50))) (.c (.q 52 [] (.fa 0 (.t 51))) (.c (.q 53 [] (.ld (.t 52))) (.c (.q 54 [] (.mv (.t 0))) (.c (.q 55 [] (.nil (.t 54))) (.c (.q 56 [] (.fa 1 (.t 55))) (.c (.q 57 [] (.ld (.t 56))) (.c (.q 58 [] (.bin .sub (.t 57) (.c (.int .i64 1)))) (.c (.q 59 [] (.mv (.t 0))) (.c (.q 60 [] (.nil (.t 59))) (.c (.q 61 [] (.fa 1 (.t 60))) (.c (.q 62 [] (.ld (.t 61))) (.c (.q 63 [] (.sub (.t 53) (some (.t 58)) (some (.t 62)))) (.c (.e (some 64) [] (.call false 35 [(.t 49), (.t 63)])) (.c (.q 4 [] (.mv (.t 64))) .nil))))))))))))))))))))) t50_4) (.seq (.reg [0, 77] (.c (.q 78 [] (.mv (.t 3))) (.c (.q 79 [] (.bin .eql (.t 78) (.c (.int .u8 40)))) (.c (.q 77 [] (.mv (.t 79))) .nil)))) t50_5))
def t50_6 := b50_6
theorem u50_6 : vcK P t50_6 k e w = vcK P b50_6 k e w := rfl
abbrev b50_7 : X := (.cond (.t 14) (.seq (.drw [2] (.c (.q 25 [] (.mv (.t 0))) (.c (.q 26 [] (.nil (.t 25))) (.c (.q 27 [] (.fa 0 (.t 26))) (.c (.q 28 [] (.ld (.t 27))) (.c (.q 29 [] (.mv (.t 0))) (.c (.q 30 [] (.nil (.t 29))) (.c (.q 31 [] (.fa 1 (.t 30))) (.c (.q 32 [] (.ld (.t 31))) (.c (.q 33 [] (.bin .sub (.t 32) (.c (.int .i64 1)))) (.c (.q 34 [] (.mv (.t 0))) (.c (.q 35 [] (.nil (.t 34))) (.c (.q 36 [] (.fa 1 (.t 35))) (.c (.q 37 [] (.ld (.t 36))) (.c (.q 38 [] (.sub (.t 28) (some (.t 33)) (some (.t 37)))) (.c (.q 2 [] (.mv (.t 38))) .nil)))))))))))))))) .ret) (.seq (.reg [0, 3, 39] (.c (.q 40 [] (.mv (.t 3))) (.c (.q 41 [] (.bin .geq (.t 40) (.c (.int .u8 65)))) (.c (.q 42 [] (.mv (.t 41))) (.c (.q 43 [(42, true)] (.mv (.t 3))) (.c (.q 44 [(42, true)] (.bin .leq (.t 43) (.c (.int .u8 90)))) (.c (.q 45 [] (.pick (.t 42) (.t 44) (.c (.bool false)))) (.c (.q 39 [] (.mv (.t 45))) .nil)))))))) t50_6))
def t50_7 := b50_7
theorem u50_7 : vcK P t50_7 k e w = vcK P b50_7 k e w := rfl
abbrev b50_8 : X := (.seq (.reg [2] (.c (.q 2 [] (.mv (.s []))) .nil)) .ret)
def t50_8 := b50_8
theorem u50_8 : vcK P t50_8 k e w = vcK P b50_8 k e w := rfl
abbrev b50_9 : X := (.seq (.reg [] (.c (.q 82 [] (.mv (.t 0))) (.c (.q 83 [] (.nil (.t 82))) (.c (.q 84 [] (.fa 2 (.t 83))) (.c (.e none [] (.st 1 (.t 84) (.c (.bool true)))) .nil))))) t50_8)
def t50_9 := b50_9
theorem u50_9 : vcK P t50_9 k e w = vcK P b50_9 k e w := rfl
abbrev b50_10 : X := (.seq (.blk 0 (.seq (.reg [0, 3, 14] (.c (.q 15 [] (.mv (.t 3))) (.c (.q 16 [] (.bin .eql (.t 15) (.c (.int .u8 112)))) (.c (.q 17 [] (.mv (.t 16))) (.c (.q 18 [(17, false)] (.mv (.t 3))) (.c (.q 19 [(17, false)] (.bin .eql (.t 18) (.c (.int .u8 98)))) (.c (.q 20 [] (.pick (.t 17) (.c (.bool true)) (.t 19))) (.c (.q 21 [] (.mv (.t 20))) (.c (.q 22 [(21, false)] (.mv (.t 3))) (.c (.q 23 [(21, false)] (.bin .eql (.t 22) (.c (.int .u8 115)))) (.c (.q 24 [] (.pick (.t 21) (.c (.bool true)) (.t 23))) (.c (.q 14 [] (.mv (.t 24))) .nil)))))))))))) t50_7)) t50_9)
def t50_10 := b50_10
theorem u50_10 : vcK P t50_10 k e w = vcK P b50_10 k e w := rfl
abbrev b50_11 : X := (.seq (.reg [0, 3] (.c (.q 7 [] (.mv (.t 0))) (.c (.q 8 [] (.nil (.t 7))) (.c (.q 9 [] (.fa 1 (.t 8))) (.c (.q 10 [] (.ld (.t 9))) (.c (.q 11 [] (.bin .add (.t 10) (.c (.int .i64 1)))) (.c (.q 12 [] (.nil (.t 7))) (.c (.q 13 [] (.fa 1 (.t 12))) (.c (.e none [] (.st 1 (.t 13) (.t 11))) .nil))))))))) t50_10)
def t50_11 := b50_11
theorem u50_11 : vcK P t50_11 k e w = vcK P b50_11 k e w := rfl
abbrev b50_12 : X := (.seq (.reg [0, 3] (.c (.q 5 [] (.mv (.t 0))) (.c (.e (some 6) [] (.call false 37 [(.t 5)])) (.c (.q 3 [] (.mv (.t 6))) .nil)))) t50_11)
def t50_12 := b50_12
theorem u50_12 : vcK P t50_12 k e w = vcK P b50_12 k e w := rfl
abbrev b50_0 : X := (.seq (.reg [0] (.c (.q 2 [] (.mv (.s []))) .nil)) t50_12)
def x_sl10R_part := b50_0
theorem u50_0 : vcK P x_sl10R_part k e w = vcK P b50_0 k e w := rfl
def r_sl10R_part : List XO := [(.mv (.t 2))]
theorem c_sl10R_part : convF Tryd.prog [27, 28, 29, 30, 32, 36, 40, 45, 46, 47, 50, 51, 52, 61, 62, 98] Tryd.f50 [([0], []), ([0, 3], []), ([0, 3], []), ([0, 3, 14], []), ([2], []), ([0, 3, 39], []), ([0, 4], []), ([0, 4, 66], []), ([], []), ([2], []), ([2], []), ([0, 77], []), ([2], []), ([], []), ([2], [])] = some (x_sl10R_part, r_sl10R_part) := by kernel_rfl
def us_sl10R_part :=  (aI (aI (aI @u50_0 (aI @u50_1 @u50_2)) (aI @u50_3 (aI @u50_4 @u50_5))) (aI (aI @u50_6 (aI @u50_7 @u50_8)) (aI (aI @u50_9 @u50_10) (aI @u50_11 @u50_12))))
abbrev b62_1 : X := (.seq (.reg [2] (.c (.q 2 [] (.mv (.s []))) .nil)) .ret)
def t62_1 := b62_1
theorem u62_1 : vcK P t62_1 k e w = vcK P b62_1 k e w := rfl
abbrev b62_2 : X := (.cond (.t 63) (.seq (.reg [] (.c (.q 64 [] (.mv (.t 0))) (.c (.q 65 [] (.nil (.t 64))) (.c (.q 66 [] (.fa 2 (.t 65))) (.c (.e none [] (.st 1 (.t 66) (.c (.bool true)))) .nil))))) t62_1) .skip)
def t62_2 := b62_2
theorem u62_2 : vcK P t62_2 k e w = vcK P b62_2 k e w := rfl
abbrev b62_3 : X := (.cond (.t 76) .skip (.exit 0))
def t62_3 := b62_3
theorem u62_3 : vcK P t62_3 k e w = vcK P b62_3 k e w := rfl
abbrev b62_4 : X := (.reg [3, 6, 7] (.c (.q 77 [] (.mv (.t 7))) (.c (.q 78 [] (.bin .sub (.t 77) (.c (.int .i64 1)))) (.c (.q 7 [] (.mv (.t 78))) .nil))))
def t62_4 := b62_4
theorem u62_4 : vcK P t62_4 k e w = vcK P b62_4 k e w := rfl
abbrev b62_5 : X := (.seq (.blk 1 (.reg [3, 6, 7] (.c (.q 79 [] (.mv (.t 6))) (.c (.q 80 [] (.mv (.t 3))) (.c (.q 81 [] (.bin .add (.t 79) (.t 80))) (.c (.q 6 [] (.mv (.t 81))) .nil)))))) t62_4)
def t62_5 := b62_5
theorem u62_5 : vcK P t62_5 k e w = vcK P b62_5 k e w := rfl
abbrev b62_6 : X := (.seq (.seq (.reg [3, 6, 7, 76] (.c (.q 70 [] (.mv (.t 7))) (.c (.q 71 [] (.bin .gtr (.t 70) (.c (.int .i64 0)))) (.c (.q 72 [] (.mv (.t 71))) (.c (.q 73 [(72, true)] (.mv (.t 6))) (.c (.q 74 [(72, true)] (.len (.t 73))) (.c (.q 75 [(72, true)] (.bin .leq (.t 74) (.c (.int .i64 60)))) (.c (.q 76 [] (.pick (.t 72) (.t 75) (.c (.bool false)))) .nil)))))))) t62_3) t62_5)
def t62_6 := b62_6
theorem u62_6 : vcK P t62_6 k e w = vcK P b62_6 k e w := rfl
abbrev b62_7 : X := (.blk 0 (.loop [6, 7] [3] t62_6))
def t62_7 := b62_7
theorem u62_7 : vcK P t62_7 k e w = vcK P b62_7 k e w := rfl
abbrev b62_8 : X := (.seq (.reg [2] (.c (.q 82 [] (.mv (.t 6))) (.c (.q 2 [] (.mv (.t 82))) .nil))) .ret)
def t62_8 := b62_8
theorem u62_8 : vcK P t62_8 k e w = vcK P b62_8 k e w := rfl
abbrev b62_9 : X := (.seq (.seq (.reg [3, 6, 7] (.c (.q 67 [] (.mv (.t 5))) (.c (.q 68 [] (.bin .sub (.t 67) (.c (.int .u8 48)))) (.c (.q 69 [] (.cvi .i64 (.t 68))) (.c (.q 7 [] (.mv (.t 69))) .nil))))) t62_7) t62_8)
def t62_9 := b62_9
theorem u62_9 : vcK P t62_9 k e w = vcK P b62_9 k e w := rfl
abbrev b62_10 : X := (.seq (.reg [3, 5, 6] (.c (.q 6 [] (.mv (.s []))) .nil)) t62_9)
def t62_10 := b62_10
theorem u62_10 : vcK P t62_10 k e w = vcK P b62_10 k e w := rfl
abbrev b62_11 : X := (.seq (.seq (.reg [0, 3, 5, 63] (.c (.q 54 [] (.mv (.t 4))) (.c (.q 55 [] (.bin .neq (.t 54) (.c (.int .u8 41)))) (.c (.q 56 [] (.mv (.t 55))) (.c (.q 57 [(56, false)] (.mv (.t 5))) (.c (.q 58 [(56, false)] (.bin .lss (.t 57) (.c (.int .u8 50)))) (.c (.q 59 [] (.pick (.t 56) (.c (.bool true)) (.t 58))) (.c (.q 60 [] (.mv (.t 59))) (.c (.q 61 [(60, false)] (.mv (.t 5))) (.c (.q 62 [(60, false)] (.bin .gtr (.t 61) (.c (.int .u8 57)))) (.c (.q 63 [] (.pick (.t 60) (.c (.bool true)) (.t 62))) .nil))))))))))) t62_2) t62_10)
def t62_11 := b62_11
theorem u62_11 : vcK P t62_11 k e w = vcK P b62_11 k e w := rfl
abbrev b62_12 : X := (.seq (.reg [0, 3, 4, 5] (.c (.q 47 [] (.mv (.t 0))) (.c (.q 48 [] (.nil (.t 47))) (.c (.q 49 [] (.fa 1 (.t 48))) (.c (.q 50 [] (.ld (.t 49))) (.c (.q 51 [] (.bin .add (.t 50) (.c (.int .i64 1)))) (.c (.q 52 [] (.nil (.t 47))) (.c (.q 53 [] (.fa 1 (.t 52))) (.c (.e none [] (.st 1 (.t 53) (.t 51))) .nil))))))))) t62_11)
def t62_12 := b62_12
theorem u62_12 : vcK P t62_12 k e w = vcK P b62_12 k e w := rfl
abbrev b62_13 : X := (.seq (.reg [0, 3, 4, 5] (.c (.q 45 [] (.mv (.t 0))) (.c (.e (some 46) [] (.call false 37 [(.t 45)])) (.c (.q 5 [] (.mv (.t 46))) .nil)))) t62_12)
def t62_13 := b62_13
theorem u62_13 : vcK P t62_13 k e w = vcK P b62_13 k e w := rfl
abbrev b62_14 : X := (.seq (.reg [0, 3, 4] (.c (.q 38 [] (.mv (.t 0))) (.c (.q 39 [] (.nil (.t 38))) (.c (.q 40 [] (.fa 1 (.t 39))) (.c (.q 41 [] (.ld (.t 40))) (.c (.q 42 [] (.bin .add (.t 41) (.c (.int .i64 1)))) (.c (.q 43 [] (.nil (.t 38))) (.c (.q 44 [] (.fa 1 (.t 43))) (.c (.e none [] (.st 1 (.t 44) (.t 42))) .nil))))))))) t62_13)
def t62_14 := b62_14
theorem u62_14 : vcK P t62_14 k e w = vcK P b62_14 k e w := rfl
abbrev b62_15 : X := (.seq (.reg [0, 3, 4] (.c (.q 36 [] (.mv (.t 0))) (.c (.e (some 37) [] (.call false 37 [(.t 36)])) (.c (.q 4 [] (.mv (.t 37))) .nil)))) t62_14)
def t62_15 := b62_15
theorem u62_15 : vcK P t62_15 k e w = vcK P b62_15 k e w := rfl
abbrev b62_16 : X := (.seq (.reg [0, 3] (.c (.q 29 [] (.mv (.t 0))) (.c (.q 30 [] (.nil (.t 29))) (.c (.q 31 [] (.fa 5 (.t 30))) (.c (.q 32 [] (.ld (.t 31))) (.c (.q 33 [] (.bin .sub (.t 32) (.c (.int .i64 1)))) (.c (.q 34 [] (.nil (.t 29))) (.c (.q 35 [] (.fa 5 (.t 34))) (.c (.e none [] (.st 1 (.t 35) (.t 33))) .nil))))))))) t62_15)
def t62_16 := b62_16
theorem u62_16 : vcK P t62_16 k e w = vcK P b62_16 k e w := rfl
abbrev b62_17 : X := (.seq (.reg [0, 3] (.c (.q 27 [] (.mv (.t 0))) (.c (.e (some 28) [] (.call true 36 [(.t 27)])) (.c (.q 3 [] (.mv (.t 28))) .nil)))) t62_16)
def t62_17 := b62_17
theorem u62_17 : vcK P t62_17 k e w = vcK P b62_17 k e w := rfl
abbrev b62_18 : X := (.seq (.drw [0] (.c (.q 15 [] (.mv (.t 0))) (.c (.q 16 [] (.mv (.t 0))) (.c (.q 17 [] (.nil (.t 16))) (.c (.q 18 [] (.fa 6 (.t 17))) (.c (.q 19 [] (.ld (.t 18))) (.c (.q 20 [] (.mv (.t 0))) (.c (.q 21 [] (.nil (.t 20))) (.c (.q 22 [] (.fa 5 (.t 21))) (.c (.q 23 [] (.ld (.t 22))) (.c (.e (some 24) [] (.call false 69 [(.t 19), (.t 23)])) (.c (.q 25 [] (.nil (.t 15))) (.c (.q 26 [] (.fa 6 (.t 25))) (.c (.e none [] (.st 1 (.t 26) (.t 24))) .nil)))))))))))))) t62_17)
def t62_18 := b62_18
theorem u62_18 : vcK P t62_18 k e w = vcK P b62_18 k e w := rfl
abbrev b62_19 : X := (.seq (.reg [0] (.c (.q 8 [] (.mv (.t 0))) (.c (.q 9 [] (.nil (.t 8))) (.c (.q 10 [] (.fa 5 (.t 9))) (.c (.q 11 [] (.ld (.t 10))) (.c (.q 12 [] (.bin .add (.t 11) (.c (.int .i64 1)))) (.c (.q 13 [] (.nil (.t 8))) (.c (.q 14 [] (.fa 5 (.t 13))) (.c (.e none [] (.st 1 (.t 14) (.t 12))) .nil))))))))) t62_18)
def t62_19 := b62_19
theorem u62_19 : vcK P t62_19 k e w = vcK P b62_19 k e w := rfl
abbrev b62_0 : X := (.seq (.reg [0] (.c (.q 2 [] (.mv (.s []))) .nil)) t62_19)
def x_sl10R_times := b62_0
theorem u62_0 : vcK P x_sl10R_times k e w = vcK P b62_0 k e w := rfl
def r_sl10R_times : List XO := [(.mv (.t 2))]
theorem c_sl10R_times : convF Tryd.prog [27, 28, 29, 30, 32, 36, 40, 45, 46, 47, 50, 51, 52, 61, 62, 98] Tryd.f62 [([0], []), ([0], []), ([0], []), ([0, 3], []), ([0, 3], []), ([0, 3, 4], []), ([0, 3, 4], []), ([0, 3, 4, 5], []), ([0, 3, 4, 5], []), ([0, 3, 5, 63], []), ([], []), ([2], []), ([3, 5, 6], []), ([3, 6, 7], []), ([6, 7], [3]), ([3, 6, 7, 76], []), ([3, 6, 7], []), ([3, 6, 7], []), ([2], [])] = some (x_sl10R_times, r_sl10R_times) := by kernel_rfl
def us_sl10R_times :=  (aI (aI (aI (aI @u62_0 @u62_1) (aI @u62_2 (aI @u62_3 @u62_4))) (aI (aI @u62_5 @u62_6) (aI @u62_7 (aI @u62_8 @u62_9)))) (aI (aI (aI @u62_10 @u62_11) (aI @u62_12 (aI @u62_13 @u62_14))) (aI (aI @u62_15 @u62_16) (aI @u62_17 (aI @u62_18 @u62_19)))))
abbrev b36_1 : X := (.cond (.t 32) .skip (.exit 0))
def t36_1 := b36_1
theorem u36_1 : vcK P t36_1 k e w = vcK P b36_1 k e w := rfl
abbrev b36_2 : X := (.cond (.t 37) (.reg [0, 3, 4] (.c (.q 38 [] (.mv (.t 3))) (.c (.q 39 [] (.mv (.t 5))) (.c (.q 40 [] (.bin .add (.t 38) (.t 39))) (.c (.q 3 [] (.mv (.t 40))) .nil))))) .skip)
def t36_2 := b36_2
theorem u36_2 : vcK P t36_2 k e w = vcK P b36_2 k e w := rfl
abbrev b36_3 : X := (.reg [0, 3, 4] (.c (.q 41 [] (.mv (.t 4))) (.c (.q 42 [] (.bin .add (.t 41) (.c (.int .i64 1)))) (.c (.q 4 [] (.mv (.t 42))) .nil))))
def t36_3 := b36_3
theorem u36_3 : vcK P t36_3 k e w = vcK P b36_3 k e w := rfl
abbrev b36_4 : X := (.seq (.seq (.reg [0, 3, 4, 5, 37] (.c (.q 35 [] (.mv (.t 3))) (.c (.q 36 [] (.len (.t 35))) (.c (.q 37 [] (.bin .leq (.t 36) (.c (.int .i64 60)))) .nil)))) t36_2) t36_3)
def t36_4 := b36_4
theorem u36_4 : vcK P t36_4 k e w = vcK P b36_4 k e w := rfl
abbrev b36_5 : X := (.blk 1 (.seq (.reg [0, 3, 4, 5] (.c (.q 33 [] (.mv (.t 0))) (.c (.e (some 34) [] (.call true 50 [(.t 33)])) (.c (.q 5 [] (.mv (.t 34))) .nil)))) t36_4))
def t36_5 := b36_5
theorem u36_5 : vcK P t36_5 k e w = vcK P b36_5 k e w := rfl
abbrev b36_6 : X := (.seq (.seq (.drw [0, 3, 4, 32] (.c (.q 6 [] (.mv (.t 0))) (.c (.q 7 [] (.nil (.t 6))) (.c (.q 8 [] (.fa 2 (.t 7))) (.c (.q 9 [] (.ld (.t 8))) (.c (.q 10 [] (.not (.t 9))) (.c (.q 11 [] (.mv (.t 10))) (.c (.q 12 [(11, true)] (.mv (.t 0))) (.c (.q 13 [(11, true)] (.nil (.t 12))) (.c (.q 14 [(11, true)] (.fa 1 (.t 13))) (.c (.q 15 [(11, true)] (.ld (.t 14))) (.c (.q 16 [(11, true)] (.mv (.t 0))) (.c (.q 17 [(11, true)] (.nil (.t 16))) (.c (.q 18 [(11, true)] (.fa 0 (.t 17))) (.c (.q 19 [(11, true)] (.ld (.t 18))) (.c (.q 20 [(11, true)] (.len (.t 19))) (.c (.q 21 [(11, true)] (.bin .lss (.t 15) (.t 20))) (.c (.q 22 [] (.pick (.t 11) (.t 21) (.c (.bool false)))) (.c (.q 23 [] (.mv (.t 22))) (.c (.q 24 [(23, true)] (.mv (.t 0))) (.c (.e (some 25) [(23, true)] (.call false 37 [(.t 24)])) (.c (.q 26 [(23, true)] (.bin .neq (.t 25) (.c (.int .u8 41)))) (.c (.q 27 [] (.pick (.t 23) (.t 26) (.c (.bool false)))) (.c (.q 28 [] (.mv (.t 27))) (.c (.q 29 [(28, true)] (.mv (.t 0))) (.c (.e (some 30) [(28, true)] (.call false 37 [(.t 29)])) (.c (.q 31 [(28, true)] (.bin .neq (.t 30) (.c (.int .u8 59)))) (.c (.q 32 [] (.pick (.t 28) (.t 31) (.c (.bool false)))) .nil)))))))))))))))))))))))))))) t36_1) t36_5)
def t36_6 := b36_6
theorem u36_6 : vcK P t36_6 k e w = vcK P b36_6 k e w := rfl
abbrev b36_7 : X := (.cond (.t 44) (.reg [3] (.c (.q 45 [] (.mv (.t 0))) (.c (.q 46 [] (.nil (.t 45))) (.c (.q 47 [] (.fa 2 (.t 46))) (.c (.e none [] (.st 1 (.t 47) (.c (.bool true)))) .nil))))) .skip)
def t36_7 := b36_7
theorem u36_7 : vcK P t36_7 k e w = vcK P b36_7 k e w := rfl
abbrev b36_8 : X := (.seq (.reg [2] (.c (.q 48 [] (.mv (.t 3))) (.c (.q 2 [] (.mv (.t 48))) .nil))) .ret)
def t36_8 := b36_8
theorem u36_8 : vcK P t36_8 k e w = vcK P b36_8 k e w := rfl
abbrev b36_9 : X := (.seq (.seq (.reg [0, 3, 44] (.c (.q 43 [] (.mv (.t 4))) (.c (.q 44 [] (.bin .eql (.t 43) (.c (.int .i64 0)))) .nil))) t36_7) t36_8)
def t36_9 := b36_9
theorem u36_9 : vcK P t36_9 k e w = vcK P b36_9 k e w := rfl
abbrev b36_10 : X := (.seq (.blk 0 (.loop [3, 4] [0] t36_6)) t36_9)
def t36_10 := b36_10
theorem u36_10 : vcK P t36_10 k e w = vcK P b36_10 k e w := rfl
abbrev b36_11 : X := (.seq (.reg [0, 3, 4] (.c (.q 4 [] (.mv (.c (.int .i64 0)))) .nil)) t36_10)
def t36_11 := b36_11
theorem u36_11 : vcK P t36_11 k e w = vcK P b36_11 k e w := rfl
abbrev b36_12 : X := (.seq (.reg [0, 3] (.c (.q 3 [] (.mv (.s []))) .nil)) t36_11)
def t36_12 := b36_12
theorem u36_12 : vcK P t36_12 k e w = vcK P b36_12 k e w := rfl
abbrev b36_0 : X := (.seq (.reg [0] (.c (.q 2 [] (.mv (.s []))) .nil)) t36_12)
def x_sl10R_block := b36_0
theorem u36_0 : vcK P x_sl10R_block k e w = vcK P b36_0 k e w := rfl
def r_sl10R_block : List XO := [(.mv (.t 2))]
theorem c_sl10R_block : convF Tryd.prog [27, 28, 29, 30, 32, 36, 40, 45, 46, 47, 50, 51, 52, 61, 62, 98] Tryd.f36 [([0], []), ([0, 3], []), ([0, 3, 4], []), ([3, 4], [0]), ([0, 3, 4, 32], []), ([0, 3, 4, 5], []), ([0, 3, 4, 5, 37], []), ([0, 3, 4], []), ([0, 3, 4], []), ([0, 3, 44], []), ([3], []), ([2], [])] = some (x_sl10R_block, r_sl10R_block) := by kernel_rfl
def us_sl10R_block :=  (aI (aI (aI @u36_0 (aI @u36_1 @u36_2)) (aI @u36_3 (aI @u36_4 @u36_5))) (aI (aI @u36_6 (aI @u36_7 @u36_8)) (aI (aI @u36_9 @u36_10) (aI @u36_11 @u36_12))))
end

theorem sl1Most_ok (a b : Int) (w : World) : Fn 69 [.int .i64 a, .int .i64 b] w (fun r _ => r = .int .i64 (if b < a then a else b)) := by
  (refine callsV_of mix Tryd.func69 c_sl1Most ?_; simp only [↓vsd, vsn, gW, qd, qv, ev, pick, argE, zipE, ne_eq, eq_self, forall_const, implies_true, if_true, if_false, reduceIte, reduceCtorEq, Nat.reduceEqDiff, Nat.reduceAdd, Nat.reduceLT, ↓us_sl1Most, r_sl1Most])
  exact ⟨fun h => ⟨Ext.refl _, by rw [if_pos h]⟩, fun h => ⟨Ext.refl _, by rw [if_neg (by omega)]⟩⟩
theorem sl10At_ok (v : Value) (l : List (List UInt8)) (x : List UInt8) (hl : l.length ≤ 1000000) (w : World) (h : Sq fS 1 w v l) : Fn 35 [v, S x] w (fun r _ => ∃ i : Int, r = .int .i64 i ∧ ((i = -1 ∧ x ∉ l) ∨ ∃ k : Nat, i = k ∧ k < l.length ∧ l.getD k [] = x ∧ x ∉ l.take k)) := by
  (refine callsV_of mix Tryd.func35 c_sl10At ?_; simp only [↓vsd, vsn, gW, qd, qv, ev, pick, argE, zipE, ne_eq, eq_self, forall_const, implies_true, if_true, if_false, reduceIte, reduceCtorEq, Nat.reduceEqDiff, Nat.reduceAdd, Nat.reduceLT, ↓us_sl10At, r_sl10At])
  simp only [↓vsd, vsn, gW, qd, qv, ev, pick, argE, zipE, ne_eq, eq_self, forall_const, implies_true, if_true, if_false, reduceIte, reduceCtorEq, Nat.reduceEqDiff, Nat.reduceAdd, Nat.reduceLT, ↓us_sl10At, r_sl10At, h.facts]
  refine m_upto l.length (fun k vs w' => vs = [.int .i64 k] ∧ x ∉ l.take k ∧ Ext w w') ⟨rfl, by simp, Ext.refl _⟩ ?_
  rintro k vs w1 hk ⟨rfl, hno, hx⟩
  have hq := h.ext hx
  by_cases hlt : k < l.length
  · have hltI : (k : Int) < l.length := by omega
    have hltJ : ¬ (l.length : Int) ≤ k := by omega
    simp only [↓vsd, vsn, gW, qd, qv, ev, pick, argE, zipE, ne_eq, eq_self, forall_const, implies_true, if_true, if_false, reduceIte, reduceCtorEq, Nat.reduceEqDiff, Nat.reduceAdd, Nat.reduceLT, ↓us_sl10At, r_sl10At, hltI, hltJ, hq.facts, hq.at1 [] hlt]
    refine ⟨by omega, fun he => ⟨hx, k, rfl, .inr ⟨k, rfl, hlt, he, hno⟩⟩, fun hne => ⟨inR_i64 (by omega), UpTo.next hlt ⟨rfl, fun hm => ?_, hx⟩⟩⟩
    rcases mem_take' (d := []) hlt hm with h1 | h1
    · exact hno h1
    · exact hne h1.symm
  · obtain rfl : k = l.length := by omega
    have hltI : ¬ (l.length : Int) < l.length := by omega
    simp only [↓vsd, vsn, gW, qd, qv, ev, pick, argE, zipE, ne_eq, eq_self, forall_const, implies_true, if_true, if_false, reduceIte, reduceCtorEq, Nat.reduceEqDiff, Nat.reduceAdd, Nat.reduceLT, ↓us_sl10At, r_sl10At, hltI]
    rw [List.take_length] at hno
    exact ⟨hx, -1, rfl, .inl ⟨rfl, hno⟩⟩
/-- The reference's reader's cells. -/
def fR (s : List UInt8) (a : Int) (bad : Bool) (nm mn : Value) (dep most : Int) : List Value := [S s, .int .i64 a, .bool bad, nm, mn, .int .i64 dep, .int .i64 most]
theorem fRg (s : List UInt8) (a : Int) (bad : Bool) (nm mn : Value) (dep most : Int) : (∀ u, (fR s a bad nm mn dep most).getD 0 u = S s) ∧ (∀ u, (fR s a bad nm mn dep most).getD 1 u = .int .i64 a) ∧ (∀ u, (fR s a bad nm mn dep most).getD 2 u = .bool bad) ∧ (∀ u, (fR s a bad nm mn dep most).getD 3 u = nm) ∧
    (∀ u, (fR s a bad nm mn dep most).getD 4 u = mn) ∧ (∀ u, (fR s a bad nm mn dep most).getD 5 u = .int .i64 dep) ∧ (∀ u, (fR s a bad nm mn dep most).getD 6 u = .int .i64 most) ∧ (fR s a bad nm mn dep most).length = 7 := ⟨fun _ => rfl, fun _ => rfl, fun _ => rfl, fun _ => rfl, fun _ => rfl, fun _ => rfl, fun _ => rfl, rfl⟩
/-- The byte that is read, 0 behind the end. -/
def pk (s : List UInt8) (a : Nat) : UInt8 := if a < s.length then s.getD a 0 else 0
theorem sl10R_peek_ok (s : List UInt8) (a : Nat) (bad : Bool) (nm mn : Value) (dep most : Int) (b : Nat) (w : World) (hb : Blk w b (fR s a bad nm mn dep most) 41) :
    Fn 37 [.pointer (some ⟨b, 0, none⟩)] w (fun r _ => r = .int .u8 ((pk s a).toNat : Nat)) := by
  (refine callsV_of mix Tryd.func37 c_sl10R_peek ?_; simp only [↓vsd, vsn, gW, qd, qv, ev, pick, argE, zipE, ne_eq, eq_self, forall_const, implies_true, if_true, if_false, reduceIte, reduceCtorEq, Nat.reduceEqDiff, Nat.reduceAdd, Nat.reduceLT, ↓us_sl10R_peek, r_sl10R_peek])
  simp only [↓vsd, vsn, gW, qd, qv, ev, pick, argE, zipE, ne_eq, eq_self, forall_const, implies_true, if_true, if_false, reduceIte, reduceCtorEq, Nat.reduceEqDiff, Nat.reduceAdd, Nat.reduceLT, ↓us_sl10R_peek, r_sl10R_peek, hb.facts, fRg]
  exact ⟨fun h => ⟨by omega, Ext.refl _, by rw [pk, if_pos (by omega)]⟩, fun h => ⟨Ext.refl _, by rw [pk, if_neg (by omega)]; rfl⟩⟩
theorem take_app (n : Nat) (a b : List UInt8) : (a.take n ++ b.take n).take n = (a ++ b).take n := by
  apply List.ext_getElem?
  intro i
  simp only [List.getElem?_take]
  by_cases hi : i < n
  · simp only [hi, if_true]
    by_cases ha : i < a.length
    · rw [List.getElem?_append_left (by rw [List.length_take]; omega), List.getElem?_append_left ha, List.getElem?_take, if_pos hi]
    · by_cases hn : a.length ≤ n
      · rw [List.take_of_length_le hn, List.getElem?_append_right (by omega), List.getElem?_append_right (by omega), List.getElem?_take, if_pos (by omega)]
      · omega
  · simp only [hi, if_false]
theorem rep_take (l : List UInt8) (d : Nat) : (Lib.repeatL l d).take 61 = (Lib.repeatL (l.take 61) d).take 61 := by
  induction d with
  | zero => rfl
  | succ d ih =>
    have := take_app 61 (l.take 61) (Lib.repeatL (l.take 61) d)
    rw [List.take_take, Nat.min_self] at this
    rw [Lib.repeatL, Lib.repeatL, ← take_app, ih, this]
theorem rep_more (l : List UInt8) (j d : Nat) (hj : j ≤ d) (hl : 61 ≤ (Lib.repeatL l j).length) : (Lib.repeatL l j).take 61 = (Lib.repeatL l d).take 61 := by
  obtain ⟨e, rfl⟩ := Nat.exists_eq_add_of_le hj
  rw [Lib.repeatL_add, List.take_append_of_le_length hl]
/-- One member of a block: its calls, the place behind it, the greatest depth. -/
def partP (s : List UInt8) (kn : List (UInt8 × List UInt8)) (f a dep most : Nat) : Option (List UInt8 × Nat × Nat) :=
  if (s.getD a 0).toNat = 40 then
    match blk s kn f (a + 1) [] false (dep + 1) (max most (dep + 1)) with
    | none => none
    | some (part, a1, most1) =>
      if a1 + 1 < s.length ∧ (s.getD a1 0).toNat = 41 ∧ 50 ≤ (s.getD (a1 + 1) 0).toNat ∧ (s.getD (a1 + 1) 0).toNat ≤ 57 then some ((Lib.repeatL part ((s.getD (a1 + 1) 0).toNat - 48)).take 61, a1 + 2, most1) else none
  else if 65 ≤ (s.getD a 0).toNat ∧ (s.getD a 0).toNat ≤ 90 then
    match kn.lookup (s.getD a 0) with
    | none => none
    | some part => some (part, a + 1, most)
  else if (s.getD a 0).toNat = 112 ∨ (s.getD a 0).toNat = 98 ∨ (s.getD a 0).toNat = 115 then some ([s.getD a 0], a + 1, most)
  else none
theorem blk_part {s : List UInt8} {kn : List (UInt8 × List UInt8)} {f a dep most : Nat} {out : List UInt8} {q : Bool} (ha : a < s.length) (h1 : (s.getD a 0).toNat ≠ 41) (h2 : (s.getD a 0).toNat ≠ 59) :
    blk s kn (f + 1) a out q dep most = match partP s kn f a dep most with | none => none | some (part, a1, most1) => blk s kn f a1 ((out ++ part).take 61) true dep most1 := by
  rw [blk, partP, if_neg (by omega)]
  split
  · cases blk s kn f (a + 1) [] false (dep + 1) (max most (dep + 1)) with
    | none => rfl
    | some p =>
      obtain ⟨part, a1, most1⟩ := p
      simp only
      split <;> rfl
  · split
    · cases kn.lookup (s.getD a 0) <;> rfl
    · split
      · rfl
      · rw [if_neg (by rintro (h | h); exact h1 h; exact h2 h)]
/-- What the reference leaves of a block or of a part. -/
def SOut (s : List UInt8) (nm mn : Value) (dep b a e : Nat) (w : World) (R : Option (List UInt8 × Nat × Nat)) (r : Value) (w' : World) : Prop := ∃ (a' most' : Nat) (bad' : Bool) (o : List UInt8), r = S o ∧ Blk w' b (fR s a' bad' nm mn dep most') 41 ∧ w.grownBy w' (some b) ∧ a ≤ a' ∧ a' + 2 * a ≤ 3 * s.length + 2 ∧ most' ≤ 600 ∧ o.length ≤ 121 * a' + e ∧
  match R with
  | some (out, a1, most1) => bad' = false ∧ a' = a1 ∧ most' = most1 ∧ o.take 61 = out
  | none => bad' = true
/-- The names and meanings that the reference's reader holds. -/
def Kn (kn : List (UInt8 × List UInt8)) (mns : List (List UInt8)) (a : Nat) : Prop := mns.length = kn.length ∧ (∀ i, i < kn.length → (mns.getD i []).take 61 = (kn.getD i (0, [])).2) ∧ ∀ x ∈ mns, x.length ≤ 121 * a
theorem kn_lookup {kn : List (UInt8 × List UInt8)} {c : UInt8} : (∀ k, k < kn.length → (namesL kn).getD k [] = [c] → [c] ∉ (namesL kn).take k → kn.lookup c = some (kn.getD k (0, [])).2) ∧ ([c] ∉ namesL kn → kn.lookup c = none) := by
  induction kn with
  | nil => exact ⟨fun k hk => by simp at hk, fun _ => rfl⟩
  | cons p kn ih =>
    obtain ⟨d, u⟩ := p
    constructor
    · intro k hk he hno
      cases k with
      | zero =>
        simp only [namesL, List.map_cons, List.getD_cons_zero, List.cons.injEq, and_true] at he
        subst he
        simp [List.lookup_cons]
      | succ k =>
        simp only [namesL, List.map_cons, List.take_succ_cons, List.mem_cons, not_or, List.cons.injEq, and_true] at hno
        have hne : (c == d) = false := by rw [beq_eq_false_iff_ne]; exact hno.1
        rw [List.lookup_cons, hne]
        simp only [List.length_cons] at hk
        rw [List.getD_cons_succ]
        exact ih.1 k (by omega) (by simpa [namesL] using he) hno.2
    · intro hno
      simp only [namesL, List.map_cons, List.mem_cons, not_or, List.cons.injEq, and_true] at hno
      have hne : (c == d) = false := by rw [beq_eq_false_iff_ne]; exact hno.1
      rw [List.lookup_cons, hne]
      exact ih.2 hno.2
def SBlockOk (f : Nat) : Prop := ∀ (s : List UInt8) (kn : List (UInt8 × List UInt8)) (nm mn : Value) (mns : List (List UInt8)) (dep most a b : Nat) (w : World), s.length - a < f → a ≤ s.length → s.length ≤ 200 → dep + (s.length - a) ≤ 600 → most ≤ 600 → kn.length ≤ 300 → Kn kn mns a →
  (∀ w', w.grownBy w' (some b) → Sq fS 1 w' nm (namesL kn) ∧ Sq fS 1 w' mn mns) → Blk w b (fR s a false nm mn dep most) 41 → CallsV Tryd.prog 36 [.pointer (some ⟨b, 0, none⟩)] w (SOut s nm mn dep b a 60 w (blk s kn f a [] false dep most))
theorem sl10R_times_ok (f : Nat) (hB : SBlockOk f) (s : List UInt8) (kn : List (UInt8 × List UInt8)) (nm mn : Value) (mns : List (List UInt8)) (dep most a b : Nat) (w : World) (hf : s.length - a < f + 1) (ha : a < s.length) (h40 : (s.getD a 0).toNat = 40) (hs : s.length ≤ 200) (hd : dep + (s.length - a) ≤ 600) (hm : most ≤ 600) (hkl : kn.length ≤ 300) (hkn : Kn kn mns a)
    (hq : ∀ w', w.grownBy w' (some b) → Sq fS 1 w' nm (namesL kn) ∧ Sq fS 1 w' mn mns) (hb : Blk w b (fR s (a + 1 : Nat) false nm mn dep most) 41) :
    CallsV Tryd.prog 62 [.pointer (some ⟨b, 0, none⟩)] w (SOut s nm mn dep b a 0 w (partP s kn f a dep most)) := by
  rw [partP, if_pos h40]
  (refine callsV_of mix Tryd.func62 c_sl10R_times ?_; simp only [↓vsd, vsn, gW, qd, qv, ev, pick, argE, zipE, ne_eq, eq_self, forall_const, implies_true, if_true, if_false, reduceIte, reduceCtorEq, Nat.reduceEqDiff, Nat.reduceAdd, Nat.reduceLT, ↓us_sl10R_times, r_sl10R_times])
  simp only [↓vsd, vsn, gW, qd, qv, ev, pick, argE, zipE, ne_eq, eq_self, forall_const, implies_true, if_true, if_false, reduceIte, reduceCtorEq, Nat.reduceEqDiff, Nat.reduceAdd, Nat.reduceLT, ↓us_sl10R_times, r_sl10R_times, hb.facts, fRg]
  refine ⟨inR_i64 (by omega), m_st hb rfl (by decide : 5 + 1 ≤ 7) (fI_one _) ?_⟩
  rintro w1 hb1' hu1
  have hb1 : Blk w1 b (fR s (a + 1 : Nat) false nm mn (dep + 1 : Nat) most) 41 := hb1'
  simp only [↓vsd, vsn, gW, qd, qv, ev, pick, argE, zipE, ne_eq, eq_self, forall_const, implies_true, if_true, if_false, reduceIte, reduceCtorEq, Nat.reduceEqDiff, Nat.reduceAdd, Nat.reduceLT, ↓us_sl10R_times, r_sl10R_times, hb1.facts, fRg]
  refine m_call (sl1Most_ok _ _ _) ?_
  rintro _ w2 hx2 rfl
  have hmx : (if ((dep + 1 : Nat) : Int) < (most : Int) then (most : Int) else ((dep + 1 : Nat) : Int)) = ((max most (dep + 1) : Nat) : Int) := by split <;> omega
  rw [hmx]
  have hx2 : Ext w1 w2 := by first | exact hx2 | exact ud hx2
  have hb2 := hb1.ext hx2
  simp only [↓vsd, vsn, gW, qd, qv, ev, pick, argE, zipE, ne_eq, eq_self, forall_const, implies_true, if_true, if_false, reduceIte, reduceCtorEq, Nat.reduceEqDiff, Nat.reduceAdd, Nat.reduceLT, ↓us_sl10R_times, r_sl10R_times]
  refine m_st hb2 rfl (by decide : 6 + 1 ≤ 7) (fI_one _) ?_
  rintro w3 hb3' hu3
  have hb3 : Blk w3 b (fR s (a + 1 : Nat) false nm mn (dep + 1 : Nat) (max most (dep + 1) : Nat)) 41 := hb3'
  have hg3 : w.grownBy w3 (some b) := grown_trans (grown_trans hu1.grown (grown_ext _ hx2)) hu3.grown
  simp only [↓vsd, vsn, gW, qd, qv, ev, pick, argE, zipE, ne_eq, eq_self, forall_const, implies_true, if_true, if_false, reduceIte, reduceCtorEq, Nat.reduceEqDiff, Nat.reduceAdd, Nat.reduceLT, ↓us_sl10R_times, r_sl10R_times]
  have hkn1 : Kn kn mns (a + 1) := ⟨hkn.1, hkn.2.1, fun x hx => by have := hkn.2.2 x hx; omega⟩
  refine m_callw (.inl rfl) (hB s kn nm mn mns (dep + 1) (max most (dep + 1)) (a + 1) b w3 (by omega) (by omega) hs (by omega) (by omega) hkl hkn1 (fun w' hg => hq w' (grown_trans hg3 hg)) hb3) ?_
  rintro _ w4 ⟨a4, most4, bad4, o4, rfl, hb4, hg4, ha4, hal4, hmm4, hol4, hR4⟩
  have hg14 := grown_trans hg3 hg4
  simp only [↓vsd, vsn, gW, qd, qv, ev, pick, argE, zipE, ne_eq, eq_self, forall_const, implies_true, if_true, if_false, reduceIte, reduceCtorEq, Nat.reduceEqDiff, Nat.reduceAdd, Nat.reduceLT, ↓us_sl10R_times, r_sl10R_times, hb4.facts, fRg]
  refine ⟨inR_i64 (by omega), m_st hb4 rfl (by decide : 5 + 1 ≤ 7) (fI_one _) ?_⟩
  rintro w5 hb5' hu5
  have hb5 : Blk w5 b (fR s a4 bad4 nm mn dep most4) 41 := by
    have e : ((dep + 1 : Nat) : Int) - 1 = (dep : Nat) := by omega
    rw [e] at hb5'
    exact hb5'
  simp only [↓vsd, vsn, gW, qd, qv, ev, pick, argE, zipE, ne_eq, eq_self, forall_const, implies_true, if_true, if_false, reduceIte, reduceCtorEq, Nat.reduceEqDiff, Nat.reduceAdd, Nat.reduceLT, ↓us_sl10R_times, r_sl10R_times]
  refine m_call (sl10R_peek_ok s a4 _ _ _ _ _ b _ hb5) ?_
  rintro _ w6 hx6 rfl
  have hb6 := hb5.ext hx6
  simp only [↓vsd, vsn, gW, qd, qv, ev, pick, argE, zipE, ne_eq, eq_self, forall_const, implies_true, if_true, if_false, reduceIte, reduceCtorEq, Nat.reduceEqDiff, Nat.reduceAdd, Nat.reduceLT, ↓us_sl10R_times, r_sl10R_times, hb6.facts, fRg]
  refine ⟨inR_i64 (by omega), m_st hb6 rfl (by decide : 1 + 1 ≤ 7) (fI_one _) ?_⟩
  rintro w7 hb7' hu7
  have hb7 : Blk w7 b (fR s (a4 + 1 : Nat) bad4 nm mn dep most4) 41 := hb7'
  simp only [↓vsd, vsn, gW, qd, qv, ev, pick, argE, zipE, ne_eq, eq_self, forall_const, implies_true, if_true, if_false, reduceIte, reduceCtorEq, Nat.reduceEqDiff, Nat.reduceAdd, Nat.reduceLT, ↓us_sl10R_times, r_sl10R_times]
  refine m_call (sl10R_peek_ok s (a4 + 1) _ _ _ _ _ b _ hb7) ?_
  rintro _ w8 hx8 rfl
  have hb8 := hb7.ext hx8
  simp only [↓vsd, vsn, gW, qd, qv, ev, pick, argE, zipE, ne_eq, eq_self, forall_const, implies_true, if_true, if_false, reduceIte, reduceCtorEq, Nat.reduceEqDiff, Nat.reduceAdd, Nat.reduceLT, ↓us_sl10R_times, r_sl10R_times, hb8.facts, fRg]
  refine ⟨inR_i64 (by omega), m_st hb8 rfl (by decide : 1 + 1 ≤ 7) (fI_one _) ?_⟩
  rintro w9 hb9' hu9
  have hb9 : Blk w9 b (fR s (a4 + 2 : Nat) bad4 nm mn dep most4) 41 := hb9'
  have hg9 : w.grownBy w9 (some b) := grown_trans (grown_trans (grown_trans (grown_trans (grown_trans hg14 hu5.grown) (grown_ext _ hx6)) hu7.grown) (grown_ext _ hx8)) hu9.grown
  simp only [↓vsd, vsn, gW, qd, qv, ev, pick, argE, zipE, ne_eq, eq_self, forall_const, implies_true, if_true, if_false, reduceIte, reduceCtorEq, Nat.reduceEqDiff, Nat.reduceAdd, Nat.reduceLT, ↓us_sl10R_times, r_sl10R_times]
  have hp1 : (pk s a4).toNat = 41 ↔ a4 < s.length ∧ (s.getD a4 0).toNat = 41 := by
    unfold pk
    split
    · rename_i h; exact ⟨fun e => ⟨h, e⟩, fun e => e.2⟩
    · rename_i h; exact ⟨fun e => absurd e (by decide), fun e => absurd e.1 h⟩
  have hp2 : 50 ≤ (pk s (a4 + 1)).toNat → a4 + 1 < s.length ∧ pk s (a4 + 1) = s.getD (a4 + 1) 0 := by
    unfold pk
    split
    · rename_i h; exact fun _ => ⟨h, rfl⟩
    · exact fun e => absurd e (by decide)
  have hp3 : a4 + 1 < s.length → pk s (a4 + 1) = s.getD (a4 + 1) 0 := fun h => by rw [pk, if_pos h]
  refine ⟨fun hbad => m_st hb9 rfl (by decide : 2 + 1 ≤ 7) (fB_one _) ?_, fun hgood => ?_⟩
  · rintro w10 hb10' hu10
    have hb10 : Blk w10 b (fR s (a4 + 2 : Nat) true nm mn dep most4) 41 := hb10'
    simp only [↓vsd, vsn, gW, qd, qv, ev, pick, argE, zipE, ne_eq, eq_self, forall_const, implies_true, if_true, if_false, reduceIte, reduceCtorEq, Nat.reduceEqDiff, Nat.reduceAdd, Nat.reduceLT, ↓us_sl10R_times, r_sl10R_times]
    refine ⟨a4 + 2, most4, true, [], rfl, hb10, grown_trans hg9 hu10.grown, by omega, by omega, hmm4, by simp, ?_⟩
    cases hbl : blk s kn f (a + 1) [] false (dep + 1) (max most (dep + 1)) with
    | none => rfl
    | some p =>
      obtain ⟨part, a1, most1⟩ := p
      rw [hbl] at hR4
      obtain ⟨_, rfl, _, _⟩ := hR4
      have hno : ¬ (a4 + 1 < s.length ∧ (s.getD a4 0).toNat = 41 ∧ 50 ≤ (s.getD (a4 + 1) 0).toNat ∧ (s.getD (a4 + 1) 0).toNat ≤ 57) := by
        rintro ⟨h1, h2, h3, h4⟩
        have := hp1.2 ⟨by omega, h2⟩
        rw [hp3 h1] at hbad
        omega
      simp only
      rw [if_neg hno]
      first | rfl | trivial
  · obtain ⟨hlt, hpe⟩ := hp2 (by omega)
    rw [hpe] at hgood ⊢
    obtain ⟨q, hq48⟩ : ∃ q, (s.getD (a4 + 1) 0).toNat = 48 + q := ⟨(s.getD (a4 + 1) 0).toNat - 48, by omega⟩
    have e48 : ((s.getD (a4 + 1) 0).toNat : Int) - 48 = (q : Nat) := by omega
    have e48' : (s.getD (a4 + 1) 0).toNat - 48 = q := by omega
    have h41 := hp1.1 (by omega)
    rw [e48]
    refine ⟨inR_u8 (by omega), inR_i64 (by omega), ?_⟩
    refine m_loop (fun m vs w' => ∃ j : Nat, vs = [S (Lib.repeatL o4 j), .int .i64 m] ∧ j + m = q ∧ (Lib.repeatL o4 j).length ≤ 60 + o4.length ∧ Blk w' b (fR s (a4 + 2 : Nat) bad4 nm mn dep most4) 41 ∧ w.grownBy w' (some b)) q ⟨0, rfl, by omega, by simp [Lib.repeatL], hb9, hg9⟩ ?_
    rintro m vs w10 ⟨j, rfl, hjm, hjl, hb10, hg10⟩
    have hfin (hstop : m = 0 ∨ 60 < (Lib.repeatL o4 j).length) (w11 : World) (hb11 : Blk w11 b (fR s (a4 + 2 : Nat) bad4 nm mn dep most4) 41) (hg11 : w.grownBy w11 (some b)) : SOut s nm mn dep b a 0 w (match blk s kn f (a + 1) [] false (dep + 1) (max most (dep + 1)) with
        | none => none
        | some (part, a1, most1) => if a1 + 1 < s.length ∧ (s.getD a1 0).toNat = 41 ∧ 50 ≤ (s.getD (a1 + 1) 0).toNat ∧ (s.getD (a1 + 1) 0).toNat ≤ 57 then some (List.take 61 (Lib.repeatL part ((s.getD (a1 + 1) 0).toNat - 48)), a1 + 2, most1) else none) (S (Lib.repeatL o4 j)) w11 := by
      refine ⟨a4 + 2, most4, bad4, _, rfl, hb11, hg11, by omega, by omega, hmm4, by omega, ?_⟩
      cases hbl : blk s kn f (a + 1) [] false (dep + 1) (max most (dep + 1)) with
      | none => rw [hbl] at hR4; exact hR4
      | some p =>
        obtain ⟨part, a1, most1⟩ := p
        rw [hbl] at hR4
        obtain ⟨hb4f, rfl, rfl, hpt⟩ := hR4
        simp only
        rw [if_pos ⟨hlt, h41.2, by omega, by omega⟩, e48']
        refine ⟨hb4f, rfl, rfl, ?_⟩
        have e1 : (Lib.repeatL o4 j).take 61 = (Lib.repeatL o4 q).take 61 := by
          rcases hstop with h0 | h0
          · obtain rfl : j = q := by omega
            rfl
          · exact rep_more o4 j q (by omega) (by omega)
        rw [e1, rep_take, hpt]
    simp only [↓vsd, vsn, gW, qd, qv, ev, pick, argE, zipE, ne_eq, eq_self, forall_const, implies_true, if_true, if_false, reduceIte, reduceCtorEq, Nat.reduceEqDiff, Nat.reduceAdd, Nat.reduceLT, ↓us_sl10R_times, r_sl10R_times]
    refine ⟨fun hgo => ⟨by omega, inR_i64 (by omega), m - 1, by omega, j + 1, ⟨?_, ?_⟩, by omega, ?_, hb10, hg10⟩, fun hst => hfin (by omega) w10 hb10 hg10⟩
    · rw [Lib.repeatL_add, Lib.repeatL_one]
    · congr 1; omega
    · rw [Lib.repeatL_add, Lib.repeatL_one, List.length_append]; omega
theorem sl10R_part_ok (f : Nat) (hB : SBlockOk f) (s : List UInt8) (kn : List (UInt8 × List UInt8)) (nm mn : Value) (mns : List (List UInt8)) (dep most a b : Nat) (w : World) (hf : s.length - a < f + 1) (ha : a < s.length) (hs : s.length ≤ 200) (hd : dep + (s.length - a) ≤ 600) (hm : most ≤ 600) (hkl : kn.length ≤ 300) (hkn : Kn kn mns a)
    (hq : ∀ w', w.grownBy w' (some b) → Sq fS 1 w' nm (namesL kn) ∧ Sq fS 1 w' mn mns) (hb : Blk w b (fR s a false nm mn dep most) 41) :
    CallsV Tryd.prog 50 [.pointer (some ⟨b, 0, none⟩)] w (SOut s nm mn dep b a 0 w (partP s kn f a dep most)) := by
  (refine callsV_of mix Tryd.func50 c_sl10R_part ?_; simp only [↓vsd, vsn, gW, qd, qv, ev, pick, argE, zipE, ne_eq, eq_self, forall_const, implies_true, if_true, if_false, reduceIte, reduceCtorEq, Nat.reduceEqDiff, Nat.reduceAdd, Nat.reduceLT, ↓us_sl10R_part, r_sl10R_part])
  refine m_call (sl10R_peek_ok s a _ _ _ _ _ b _ hb) ?_
  rintro _ w1 hx1 rfl
  have hb1 := hb.ext hx1
  simp only [↓vsd, vsn, gW, qd, qv, ev, pick, argE, zipE, ne_eq, eq_self, forall_const, implies_true, if_true, if_false, reduceIte, reduceCtorEq, Nat.reduceEqDiff, Nat.reduceAdd, Nat.reduceLT, ↓us_sl10R_part, r_sl10R_part, hb1.facts, fRg]
  refine ⟨inR_i64 (by omega), m_st hb1 rfl (by decide : 1 + 1 ≤ 7) (fI_one _) ?_⟩
  rintro w2 hb2' hu2
  have hb2 : Blk w2 b (fR s (a + 1 : Nat) false nm mn dep most) 41 := hb2'
  have hg2 : w.grownBy w2 (some b) := grown_trans (grown_ext _ hx1) hu2.grown
  have hpk : pk s a = s.getD a 0 := by rw [pk, if_pos ha]
  rw [hpk]
  simp only [↓vsd, vsn, gW, qd, qv, ev, pick, argE, zipE, ne_eq, eq_self, forall_const, implies_true, if_true, if_false, reduceIte, reduceCtorEq, Nat.reduceEqDiff, Nat.reduceAdd, Nat.reduceLT, ↓us_sl10R_part, r_sl10R_part, hb2.facts, fRg]
  have e1 : (s.take (a + 1)).drop (a + 1 - 1) = [s.getD a 0] := by
    rw [Nat.add_sub_cancel, List.take_add_one, List.drop_append, List.getD_eq_getElem?_getD, List.getElem?_eq_getElem (by omega)]
    simp [Nat.min_eq_left (show a ≤ s.length by omega)]
  rw [e1]
  refine ⟨fun hpbs => ⟨inR_i64 (by omega), by omega, ?_⟩, fun hnp => ⟨fun hAZ => ⟨inR_i64 (by omega), by omega, ?_⟩, fun hnAZ => ⟨fun h40 => ?_, fun hn40 => ?_⟩⟩⟩
  · refine ⟨a + 1, most, false, _, rfl, hb2, gdrw hg2, by omega, by omega, hm, by simp only [List.length_singleton]; omega, ?_⟩
    rw [partP, if_neg (by omega), if_neg (by omega), if_pos (by omega)]
    exact ⟨rfl, rfl, rfl, rfl⟩
  · obtain ⟨hkl1, hkm, hkb⟩ := hkn
    have hnl : (namesL kn).length = kn.length := by simp [namesL]
    have hqd := hq w2.drew (gdrw hg2)
    refine m_call (sl10At_ok nm (namesL kn) [s.getD a 0] (by omega) _ hqd.1) ?_
    rintro _ w3 hx3 ⟨i, rfl, hi⟩
    have hx3 := ud hx3
    have hb3 := hb2.ext hx3
    have hg3 := grown_trans hg2 (grown_ext (some b) hx3)
    have hq3 := hq w3 hg3
    rcases hi with ⟨rfl, hno⟩ | ⟨k, rfl, hk, hke, hkn0⟩
    · have hlk := (kn_lookup (kn := kn)).2 hno
      have hneg : (-1 : Int) < 0 := by decide
      simp only [↓vsd, vsn, gW, qd, qv, ev, pick, argE, zipE, ne_eq, eq_self, forall_const, implies_true, if_true, if_false, reduceIte, reduceCtorEq, Nat.reduceEqDiff, Nat.reduceAdd, Nat.reduceLT, ↓us_sl10R_part, r_sl10R_part, hb2.facts, hb3.facts, fRg, hneg]
      refine m_st hb3 rfl (by decide : 2 + 1 ≤ 7) (fB_one _) ?_
      rintro w4 hb4' hu4
      have hb4 : Blk w4 b (fR s (a + 1 : Nat) true nm mn dep most) 41 := hb4'
      simp only [↓vsd, vsn, gW, qd, qv, ev, pick, argE, zipE, ne_eq, eq_self, forall_const, implies_true, if_true, if_false, reduceIte, reduceCtorEq, Nat.reduceEqDiff, Nat.reduceAdd, Nat.reduceLT, ↓us_sl10R_part, r_sl10R_part]
      refine ⟨a + 1, most, true, [], rfl, hb4, grown_trans hg3 hu4.grown, by omega, by omega, hm, by simp, ?_⟩
      rw [partP, if_neg (by omega), if_pos (by omega), hlk]
    · rw [hnl] at hk
      have hlk := (kn_lookup (kn := kn)).1 k hk hke hkn0
      have hneg : ¬ ((k : Int) < 0) := by omega
      have hkm2 : k < mns.length := by omega
      simp only [↓vsd, vsn, gW, qd, qv, ev, pick, argE, zipE, ne_eq, eq_self, forall_const, implies_true, if_true, if_false, reduceIte, reduceCtorEq, Nat.reduceEqDiff, Nat.reduceAdd, Nat.reduceLT, ↓us_sl10R_part, r_sl10R_part, hb2.facts, hb3.facts, fRg, hneg, hq3.2.facts, hq3.2.at1 [] hkm2]
      refine ⟨by omega, a + 1, most, false, _, rfl, hb3, hg3, by omega, by omega, hm, ?_, ?_⟩
      · have := hkb _ (getD_mem' [] hkm2); omega
      · rw [partP, if_neg (by omega), if_pos (by omega), hlk]
        exact ⟨rfl, rfl, rfl, hkm k hk⟩
  · refine m_callw (.inl rfl) (sl10R_times_ok f hB s kn nm mn mns dep most a b w2 hf ha (by omega) hs hd hm hkl hkn (fun w' hg => hq w' (grown_trans hg2 hg)) hb2) ?_
    rintro r w3 hS
    simp only [↓vsd, vsn, gW, qd, qv, ev, pick, argE, zipE, ne_eq, eq_self, forall_const, implies_true, if_true, if_false, reduceIte, reduceCtorEq, Nat.reduceEqDiff, Nat.reduceAdd, Nat.reduceLT, ↓us_sl10R_part, r_sl10R_part]
    obtain ⟨a', most', bad', o, rfl, h1, h2, h3⟩ := hS
    exact ⟨a', most', bad', o, rfl, h1, grown_trans hg2 h2, h3⟩
  · refine m_st hb2 rfl (by decide : 2 + 1 ≤ 7) (fB_one _) ?_
    rintro w3 hb3' hu3
    have hb3 : Blk w3 b (fR s (a + 1 : Nat) true nm mn dep most) 41 := hb3'
    simp only [↓vsd, vsn, gW, qd, qv, ev, pick, argE, zipE, ne_eq, eq_self, forall_const, implies_true, if_true, if_false, reduceIte, reduceCtorEq, Nat.reduceEqDiff, Nat.reduceAdd, Nat.reduceLT, ↓us_sl10R_part, r_sl10R_part]
    refine ⟨a + 1, most, true, [], rfl, hb3, grown_trans hg2 hu3.grown, by omega, by omega, hm, by simp, ?_⟩
    rw [partP, if_neg (by omega), if_neg (by omega), if_neg (by omega)]
theorem partP_at {s : List UInt8} {kn : List (UInt8 × List UInt8)} {f a dep most : Nat} {r : List UInt8 × Nat × Nat} (ha : a < s.length) (h : partP s kn f a dep most = some r) : a + 1 ≤ r.2.1 ∧ r.2.1 ≤ s.length := by
  rw [partP] at h
  split at h
  · split at h
    · cases h
    · rename_i part a1 most1 h1
      split at h
      · have hi := blk_at (by omega) h1
        simp only at hi
        cases h
        simp only
        omega
      · cases h
  · split at h
    · split at h
      · cases h
      · cases h; simp only; omega
    · split at h
      · cases h; simp only; omega
      · cases h
theorem sl10R_block_ok : ∀ f, SBlockOk f := by
  intro f
  induction f using Nat.strongRecOn with
  | _ f ih =>
  intro s kn nm mn mns dep most a0 b w hf ha0 hs hd hm hkl hkn hq hb
  (refine callsV_of mix Tryd.func36 c_sl10R_block ?_; simp only [↓vsd, vsn, gW, qd, qv, ev, pick, argE, zipE, ne_eq, eq_self, forall_const, implies_true, if_true, if_false, reduceIte, reduceCtorEq, Nat.reduceEqDiff, Nat.reduceAdd, Nat.reduceLT, ↓us_sl10R_block, r_sl10R_block])
  refine m_loop (fun m vs w' => ∃ (a most' many : Nat) (bad : Bool) (o : List UInt8), m ≤ f ∧ vs = [S o, .int .i64 many] ∧ Blk w' b (fR s a bad nm mn dep most') 41 ∧ w.grownBy w' (some b) ∧ a0 ≤ a ∧ a + 2 * a0 ≤ 3 * s.length + 2 ∧ most' ≤ 600 ∧ o.length ≤ 121 * a + 60 ∧ many ≤ a + 1 ∧
    (bad = false → many ≤ a ∧ a ≤ s.length ∧ s.length - a < m ∧ blk s kn m a (o.take 61) (decide (0 < many)) dep most' = blk s kn f a0 [] false dep most) ∧ (bad = true → 0 < many ∧ blk s kn f a0 [] false dep most = none)) f ⟨a0, most, 0, false, [], Nat.le_refl _, rfl, hb, grown_refl _ _, Nat.le_refl _, by omega, hm, by simp, by omega, fun _ => ⟨Nat.zero_le _, ha0, hf, rfl⟩, fun h => by cases h⟩ ?_
  rintro m vs w1 ⟨a, most1, many, bad, o, hmf, rfl, hb1, hg1, ha1, ha2, hm1, hol, hmany, hgood, hbad⟩
  cases bad with
  | true =>
    obtain ⟨hpos, hnone⟩ := hbad rfl
    have hI : ¬ ((many : Int) = 0) := by omega
    simp only [↓vsd, vsn, gW, qd, qv, ev, pick, argE, zipE, ne_eq, eq_self, forall_const, implies_true, if_true, if_false, reduceIte, reduceCtorEq, Nat.reduceEqDiff, Nat.reduceAdd, Nat.reduceLT, ↓us_sl10R_block, r_sl10R_block, hb1.facts, fRg, hI]
    exact ⟨a, most1, true, o, rfl, hb1, gdrw hg1, ha1, ha2, hm1, hol, by rw [hnone]⟩
  | false =>
    obtain ⟨hma, has, ham, hR⟩ := hgood rfl
    obtain ⟨g, rfl⟩ : ∃ g, m = g + 1 := ⟨m - 1, by omega⟩
    by_cases hend : s.length ≤ a
    · have hI : ¬ (a : Int) < s.length := by omega
      rw [blk, if_pos hend] at hR
      simp only [↓vsd, vsn, gW, qd, qv, ev, pick, argE, zipE, ne_eq, eq_self, forall_const, implies_true, if_true, if_false, reduceIte, reduceCtorEq, Nat.reduceEqDiff, Nat.reduceAdd, Nat.reduceLT, ↓us_sl10R_block, r_sl10R_block, hb1.facts, fRg, hI]
      have hbE : Blk w1.drew b (fR s a false nm mn dep most1) 41 := hb1
      have hgE : w.grownBy w1.drew (some b) := gdrw hg1
      refine ⟨fun h0 => m_st hbE rfl (by decide : 2 + 1 ≤ 7) (fB_one _) ?_, fun h0 => ⟨a, most1, false, o, rfl, hbE, hgE, ha1, ha2, hm1, hol, ?_⟩⟩
      · rintro w9 hb9' hu9
        have hb9 : Blk w9 b (fR s a true nm mn dep most1) 41 := hb9'
        simp only [↓vsd, vsn, gW, qd, qv, ev, pick, argE, zipE, ne_eq, eq_self, forall_const, implies_true, if_true, if_false, reduceIte, reduceCtorEq, Nat.reduceEqDiff, Nat.reduceAdd, Nat.reduceLT, ↓us_sl10R_block, r_sl10R_block]
        refine ⟨a, most1, true, o, rfl, hb9, grown_trans hgE hu9.grown, ha1, ha2, hm1, hol, ?_⟩
        rw [← hR, if_neg (by simp only [decide_eq_true_eq]; omega)]
      · rw [← hR, if_pos (by simp only [decide_eq_true_eq]; omega)]
        exact ⟨rfl, rfl, rfl, rfl⟩
    · have hI : (a : Int) < s.length := by omega
      have hpk : pk s a = s.getD a 0 := by rw [pk, if_pos (by omega)]
      simp only [↓vsd, vsn, gW, qd, qv, ev, pick, argE, zipE, ne_eq, eq_self, forall_const, implies_true, if_true, if_false, reduceIte, reduceCtorEq, Nat.reduceEqDiff, Nat.reduceAdd, Nat.reduceLT, ↓us_sl10R_block, r_sl10R_block, hb1.facts, fRg, hI]
      refine m_call (sl10R_peek_ok s a _ _ _ _ _ b _ hb1) ?_
      rintro _ w2 hx2 rfl
      have hx2 := ud hx2
      have hb2 := hb1.ext hx2
      have hg2 := grown_trans hg1 (grown_ext (some b) hx2)
      rw [hpk]
      by_cases h41 : (s.getD a 0).toNat = 41
      · have h41I : ((s.getD a 0).toNat : Int) = 41 := by omega
        rw [blk, if_neg hend, if_neg (by omega), if_neg (by omega), if_neg (by omega), if_pos (by omega)] at hR
        simp only [↓vsd, vsn, gW, qd, qv, ev, pick, argE, zipE, ne_eq, eq_self, forall_const, implies_true, if_true, if_false, reduceIte, reduceCtorEq, Nat.reduceEqDiff, Nat.reduceAdd, Nat.reduceLT, ↓us_sl10R_block, r_sl10R_block, h41I]
        have hbE : Blk w2 b (fR s a false nm mn dep most1) 41 := hb2
        have hgE : w.grownBy w2 (some b) := hg2
        refine ⟨fun h0 => m_st hbE rfl (by decide : 2 + 1 ≤ 7) (fB_one _) ?_, fun h0 => ⟨a, most1, false, o, rfl, hbE, hgE, ha1, ha2, hm1, hol, ?_⟩⟩
        · rintro w9 hb9' hu9
          have hb9 : Blk w9 b (fR s a true nm mn dep most1) 41 := hb9'
          simp only [↓vsd, vsn, gW, qd, qv, ev, pick, argE, zipE, ne_eq, eq_self, forall_const, implies_true, if_true, if_false, reduceIte, reduceCtorEq, Nat.reduceEqDiff, Nat.reduceAdd, Nat.reduceLT, ↓us_sl10R_block, r_sl10R_block]
          refine ⟨a, most1, true, o, rfl, hb9, grown_trans hgE hu9.grown, ha1, ha2, hm1, hol, ?_⟩
          rw [← hR, if_neg (by simp only [decide_eq_true_eq]; omega)]
        · rw [← hR, if_pos (by simp only [decide_eq_true_eq]; omega)]
          exact ⟨rfl, rfl, rfl, rfl⟩
      · have h41I : ¬ ((s.getD a 0).toNat : Int) = 41 := by omega
        simp only [↓vsd, vsn, gW, qd, qv, ev, pick, argE, zipE, ne_eq, eq_self, forall_const, implies_true, if_true, if_false, reduceIte, reduceCtorEq, Nat.reduceEqDiff, Nat.reduceAdd, Nat.reduceLT, ↓us_sl10R_block, r_sl10R_block, h41I]
        refine m_call (sl10R_peek_ok s a _ _ _ _ _ b _ hb2) ?_
        rintro _ w3 hx3 rfl
        have hb3 := hb2.ext hx3
        have hg3 := grown_trans hg2 (grown_ext (some b) hx3)
        rw [hpk]
        by_cases h59 : (s.getD a 0).toNat = 59
        · have h59I : ((s.getD a 0).toNat : Int) = 59 := by omega
          rw [blk, if_neg hend, if_neg (by omega), if_neg (by omega), if_neg (by omega), if_pos (by omega)] at hR
          simp only [↓vsd, vsn, gW, qd, qv, ev, pick, argE, zipE, ne_eq, eq_self, forall_const, implies_true, if_true, if_false, reduceIte, reduceCtorEq, Nat.reduceEqDiff, Nat.reduceAdd, Nat.reduceLT, ↓us_sl10R_block, r_sl10R_block, h41I, h59I]
          have hbE : Blk w3 b (fR s a false nm mn dep most1) 41 := hb3
          have hgE : w.grownBy w3 (some b) := hg3
          refine ⟨fun h0 => m_st hbE rfl (by decide : 2 + 1 ≤ 7) (fB_one _) ?_, fun h0 => ⟨a, most1, false, o, rfl, hbE, hgE, ha1, ha2, hm1, hol, ?_⟩⟩
          · rintro w9 hb9' hu9
            have hb9 : Blk w9 b (fR s a true nm mn dep most1) 41 := hb9'
            simp only [↓vsd, vsn, gW, qd, qv, ev, pick, argE, zipE, ne_eq, eq_self, forall_const, implies_true, if_true, if_false, reduceIte, reduceCtorEq, Nat.reduceEqDiff, Nat.reduceAdd, Nat.reduceLT, ↓us_sl10R_block, r_sl10R_block]
            refine ⟨a, most1, true, o, rfl, hb9, grown_trans hgE hu9.grown, ha1, ha2, hm1, hol, ?_⟩
            rw [← hR, if_neg (by simp only [decide_eq_true_eq]; omega)]
          · rw [← hR, if_pos (by simp only [decide_eq_true_eq]; omega)]
            exact ⟨rfl, rfl, rfl, rfl⟩
        · have h59I : ¬ ((s.getD a 0).toNat : Int) = 59 := by omega
          simp only [↓vsd, vsn, gW, qd, qv, ev, pick, argE, zipE, ne_eq, eq_self, forall_const, implies_true, if_true, if_false, reduceIte, reduceCtorEq, Nat.reduceEqDiff, Nat.reduceAdd, Nat.reduceLT, ↓us_sl10R_block, r_sl10R_block, h41I, h59I]
          have hkna : Kn kn mns a := ⟨hkn.1, hkn.2.1, fun x hx => by have := hkn.2.2 x hx; omega⟩
          refine m_callw (.inl rfl) (sl10R_part_ok g (ih g (by omega)) s kn nm mn mns dep most1 a b w3 ham (by omega) hs (by omega) hm1 hkl hkna (fun w' hg => hq w' (grown_trans hg3 hg)) hb3) ?_
          rintro _ w4 ⟨a4, most4, bad4, o4, rfl, hb4, hg4, ha4, hal4, hmm4, hol4, hR4⟩
          have hg14 := grown_trans hg3 hg4
          rw [blk_part (by omega) h41 h59] at hR
          have hnext (o' : List UInt8) (ho' : o'.length ≤ 121 * a4 + 60) (hot : o'.take 61 = (o.take 61 ++ o4.take 61).take 61) :
              (bad4 = false → many + 1 ≤ a4 ∧ a4 ≤ s.length ∧ s.length - a4 < g ∧ blk s kn g a4 (o'.take 61) (decide (0 < many + 1)) dep most4 = blk s kn f a0 [] false dep most) ∧ (bad4 = true → 0 < many + 1 ∧ blk s kn f a0 [] false dep most = none) := by
            cases hpp : partP s kn g a dep most1 with
            | none =>
              rw [hpp] at hR4 hR
              simp only at hR4 hR
              subst hR4
              exact ⟨(fun h => by cases h), fun _ => ⟨by omega, hR.symm⟩⟩
            | some p =>
              obtain ⟨part, a5, most5⟩ := p
              have hat := partP_at (by omega) hpp
              rw [hpp] at hR4 hR
              obtain ⟨rfl, rfl, rfl, hpt⟩ := hR4
              simp only at hR hat
              refine ⟨fun _ => ⟨by omega, hat.2, by omega, ?_⟩, fun h => by cases h⟩
              rw [hot, hpt, ← hR]
              simp
          simp only [↓vsd, vsn, gW, qd, qv, ev, pick, argE, zipE, ne_eq, eq_self, forall_const, implies_true, if_true, if_false, reduceIte, reduceCtorEq, Nat.reduceEqDiff, Nat.reduceAdd, Nat.reduceLT, ↓us_sl10R_block, r_sl10R_block]
          refine ⟨fun hle => ⟨by omega, inR_i64 (by omega), g, by omega, a4, most4, many + 1, bad4, o ++ o4, by omega, ⟨rfl, rfl⟩, hb4, hg14, by omega, by omega, hmm4, by rw [List.length_append]; omega, by omega, hnext _ (by rw [List.length_append]; omega) (take_app 61 o o4).symm⟩,
            fun hgt => ⟨inR_i64 (by omega), g, by omega, a4, most4, many + 1, bad4, o, by omega, ⟨rfl, rfl⟩, hb4, hg14, by omega, by omega, hmm4, by omega, by omega, hnext _ (by omega) ?_⟩⟩
          rw [take_app, List.take_append_of_le_length (by omega)]
end Go.Proofs.YtnbnofmnbopknaaDoor
