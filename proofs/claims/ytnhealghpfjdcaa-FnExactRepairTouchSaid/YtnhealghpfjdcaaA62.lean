/-
  A shortest touch between two rows, of both sides.
  Conditions: none.
-/
import Derived.Test.YtnhealghpfjdcaaA58
set_option linter.unusedSimpArgs false
set_option linter.unusedVariables false
set_option linter.defProp false
namespace Go.Proofs.Ytnhealghpfjdcaa
open Go Go.RowKit
section
variable (P : Program) (k : KT) (e : Env) (w : World)
abbrev b71_1 : X := (.cond (.t 17) (.seq (.reg [10, 11] (.c (.q 18 [] (.mv (.t 2))) (.c (.q 19 [] (.mv (.t 3))) (.c (.q 20 [] (.bin .eql (.t 18) (.t 19))) (.c (.q 10 [] (.mv (.s []))) (.c (.q 11 [] (.mv (.t 20))) .nil)))))) .ret) .skip)
def t71_1 := b71_1
theorem u71_1 : vcK P t71_1 k e w = vcK P b71_1 k e w := rfl
abbrev b71_2 : X := (.cond (.t 42) (.seq (.reg [10, 11] (.c (.q 43 [] (.mv (.t 13))) (.c (.q 44 [] (.mv (.t 14))) (.c (.q 45 [] (.bin .add (.t 43) (.t 44))) (.c (.q 10 [] (.mv (.t 45))) (.c (.q 11 [] (.mv (.c (.bool true)))) .nil)))))) .ret) .skip)
def t71_2 := b71_2
theorem u71_2 : vcK P t71_2 k e w = vcK P b71_2 k e w := rfl
abbrev b71_3 : X := (.seq (.reg [2, 3, 4, 5, 6, 13, 14, 21, 22, 23, 42] (.c (.q 42 [] (.mv (.t 15))) .nil)) t71_2)
def t71_3 := b71_3
theorem u71_3 : vcK P t71_3 k e w = vcK P b71_3 k e w := rfl
abbrev b71_4 : X := (.seq (.drw [2, 3, 4, 5, 6, 13, 14, 15, 21, 22, 23] (.c (.q 28 [] (.lda 3 (.t 5))) (.c (.q 29 [] (.lda 2 (.t 6))) (.c (.q 30 [] (.mv (.t 2))) (.c (.q 31 [] (.lda 3 (.t 5))) (.c (.q 32 [] (.lda 2 (.t 6))) (.c (.q 33 [] (.mv (.t 13))) (.c (.q 36 [] (.mv (.t 3))) (.c (.q 37 [] (.mv (.t 4))) (.c (.q 38 [] (.bin .sub (.t 37) (.c (.int .i64 1)))) (.c (.e (some 34) [] (.call false 132 [(.t 31), (.t 32), (.t 33)])) (.c (.e (some 35) [] (.call false 82 [(.t 30), (.t 34)])) (.c (.e (some 39) [] (.call false 71 [(.t 28), (.t 29), (.t 35), (.t 36), (.t 38)])) (.c (.q 27 [] (.mv (.t 39))) (.c (.q 40 [] (.ext 0 (.t 27))) (.c (.q 41 [] (.ext 1 (.t 27))) (.c (.q 14 [] (.mv (.t 40))) (.c (.q 15 [] (.mv (.t 41))) .nil)))))))))))))))))) t71_3)
def t71_4 := b71_4
theorem u71_4 : vcK P t71_4 k e w = vcK P b71_4 k e w := rfl
abbrev b71_5 : X := (.reg [2, 3, 4, 5, 6, 21, 22, 23] (.c (.q 46 [] (.bin .add (.t 23) (.c (.int .i64 1)))) (.c (.q 23 [] (.mv (.t 46))) .nil)))
def t71_5 := b71_5
theorem u71_5 : vcK P t71_5 k e w = vcK P b71_5 k e w := rfl
abbrev b71_6 : X := (.seq (.blk 1 (.seq (.reg [2, 3, 4, 5, 6, 13, 21, 22, 23] (.c (.q 25 [] (.ia 1 (.t 21) (.t 23))) (.c (.q 26 [] (.ld (.t 25))) (.c (.q 13 [] (.mv (.t 26))) .nil)))) t71_4)) t71_5)
def t71_6 := b71_6
theorem u71_6 : vcK P t71_6 k e w = vcK P b71_6 k e w := rfl
abbrev b71_7 : X := (.seq (.cond (.t 24) .skip (.exit 0)) t71_6)
def t71_7 := b71_7
theorem u71_7 : vcK P t71_7 k e w = vcK P b71_7 k e w := rfl
abbrev b71_8 : X := (.seq (.reg [2, 3, 4, 5, 6, 21, 22, 23, 24] (.c (.q 24 [] (.bin .lss (.t 23) (.t 22))) .nil)) t71_7)
def t71_8 := b71_8
theorem u71_8 : vcK P t71_8 k e w = vcK P b71_8 k e w := rfl
abbrev b71_9 : X := (.blk 0 (.loop [23] [2, 3, 4, 5, 6, 21, 22] t71_8))
def t71_9 := b71_9
theorem u71_9 : vcK P t71_9 k e w = vcK P b71_9 k e w := rfl
abbrev b71_10 : X := (.seq (.reg [10, 11] (.c (.q 10 [] (.mv (.s []))) (.c (.q 11 [] (.mv (.c (.bool false)))) .nil))) .ret)
def t71_10 := b71_10
theorem u71_10 : vcK P t71_10 k e w = vcK P b71_10 k e w := rfl
abbrev b71_11 : X := (.seq (.seq (.reg [2, 3, 4, 5, 6, 21, 22, 23] (.c (.e (some 21) [] (.bsl 9 1 [(.s [98]), (.s [112]), (.s [115])])) (.c (.q 22 [] (.lens (.t 21))) (.c (.q 23 [] (.mv (.c (.int .i64 0)))) .nil)))) t71_9) t71_10)
def t71_11 := b71_11
theorem u71_11 : vcK P t71_11 k e w = vcK P b71_11 k e w := rfl
abbrev b71_12 : X := (.seq (.seq (.reg [2, 3, 4, 5, 6, 17] (.c (.q 16 [] (.mv (.t 4))) (.c (.q 17 [] (.bin .eql (.t 16) (.c (.int .i64 0)))) .nil))) t71_1) t71_11)
def t71_12 := b71_12
theorem u71_12 : vcK P t71_12 k e w = vcK P b71_12 k e w := rfl
abbrev b71_0 : X := (.seq (.reg [2, 3, 4, 5, 6] (.c (.e (some 5) [] (.box 31 (.t 0))) (.c (.e (some 6) [] (.box 33 (.t 1))) (.c (.q 10 [] (.mv (.s []))) (.c (.q 11 [] (.mv (.c (.bool false)))) .nil))))) t71_12)
def x_sl15Least := b71_0
theorem u71_0 : vcK P x_sl15Least k e w = vcK P b71_0 k e w := rfl
def r_sl15Least : List XO := [(.mv (.t 10)), (.mv (.t 11))]
theorem c_sl15Least : convF Try.prog [89, 116, 117, 121, 143, 161, 162, 163, 166, 168, 234] Try.f71 [([2, 3, 4, 5, 6], []), ([2, 3, 4, 5, 6, 17], []), ([10, 11], []), ([2, 3, 4, 5, 6, 21, 22, 23], []), ([23], [2, 3, 4, 5, 6, 21, 22]), ([2, 3, 4, 5, 6, 21, 22, 23, 24], []), ([2, 3, 4, 5, 6, 13, 21, 22, 23], []), ([2, 3, 4, 5, 6, 13, 14, 15, 21, 22, 23], []), ([2, 3, 4, 5, 6, 13, 14, 21, 22, 23, 42], []), ([10, 11], []), ([2, 3, 4, 5, 6, 21, 22, 23], []), ([10, 11], [])] = some (x_sl15Least, r_sl15Least) := by kernel_rfl
def us_sl15Least := aI @u71_0 (aI @u71_1 (aI @u71_2 (aI @u71_3 (aI @u71_4 (aI @u71_5 (aI @u71_6 (aI @u71_7 (aI @u71_8 (aI @u71_9 (aI @u71_10 (aI @u71_11 @u71_12)))))))))))
abbrev b25_1 : X := (.cond (.t 17) (.seq (.reg [8, 9] (.c (.q 8 [] (.mv (.s []))) (.c (.q 9 [] (.mv (.c (.bool false)))) .nil))) .ret) .skip)
def t25_1 := b25_1
theorem u25_1 : vcK P t25_1 k e w = vcK P b25_1 k e w := rfl
abbrev b25_2 : X := (.cond (.t 27) (.seq (.reg [8, 9] (.c (.q 8 [] (.mv (.s []))) (.c (.q 9 [] (.mv (.c (.bool false)))) .nil))) .ret) .skip)
def t25_2 := b25_2
theorem u25_2 : vcK P t25_2 k e w = vcK P b25_2 k e w := rfl
abbrev b25_3 : X := (.seq (.reg [8, 9] (.c (.q 28 [] (.lda 3 (.t 4))) (.c (.q 29 [] (.lda 2 (.t 5))) (.c (.q 30 [] (.mv (.t 2))) (.c (.q 31 [] (.mv (.t 3))) (.c (.q 32 [] (.mv (.t 10))) (.c (.q 33 [] (.lens (.t 32))) (.c (.q 34 [] (.bin .sub (.t 33) (.c (.int .i64 1)))) (.c (.e (some 35) [] (.call false 71 [(.t 28), (.t 29), (.t 30), (.t 31), (.t 34)])) (.c (.q 36 [] (.ext 0 (.t 35))) (.c (.q 37 [] (.ext 1 (.t 35))) (.c (.q 8 [] (.mv (.t 36))) (.c (.q 9 [] (.mv (.t 37))) .nil))))))))))))) .ret)
def t25_3 := b25_3
theorem u25_3 : vcK P t25_3 k e w = vcK P b25_3 k e w := rfl
abbrev b25_4 : X := (.seq (.seq (.reg [2, 3, 4, 5, 10, 27] (.c (.q 26 [] (.mv (.t 11))) (.c (.q 27 [] (.not (.t 26))) .nil))) t25_2) t25_3)
def t25_4 := b25_4
theorem u25_4 : vcK P t25_4 k e w = vcK P b25_4 k e w := rfl
abbrev b25_5 : X := (.seq (.reg [2, 3, 4, 5, 10, 11] (.c (.q 19 [] (.lda 3 (.t 4))) (.c (.q 20 [] (.lda 2 (.t 5))) (.c (.q 21 [] (.mv (.t 2))) (.c (.q 22 [] (.mv (.t 3))) (.c (.e (some 23) [] (.call false 70 [(.t 19), (.t 20), (.t 21), (.t 22)])) (.c (.q 18 [] (.mv (.t 23))) (.c (.q 24 [] (.ext 0 (.t 18))) (.c (.q 25 [] (.ext 1 (.t 18))) (.c (.q 10 [] (.mv (.t 24))) (.c (.q 11 [] (.mv (.t 25))) .nil))))))))))) t25_4)
def t25_5 := b25_5
theorem u25_5 : vcK P t25_5 k e w = vcK P b25_5 k e w := rfl
abbrev b25_6 : X := (.seq (.seq (.reg [2, 3, 4, 5, 17] (.c (.q 12 [] (.lda 3 (.t 4))) (.c (.q 13 [] (.lda 2 (.t 5))) (.c (.q 14 [] (.mv (.t 2))) (.c (.q 15 [] (.mv (.t 3))) (.c (.e (some 16) [] (.call false 69 [(.t 12), (.t 13), (.t 14), (.t 15)])) (.c (.q 17 [] (.not (.t 16))) .nil))))))) t25_1) t25_5)
def t25_6 := b25_6
theorem u25_6 : vcK P t25_6 k e w = vcK P b25_6 k e w := rfl
abbrev b25_0 : X := (.seq (.reg [2, 3, 4, 5] (.c (.e (some 4) [] (.box 31 (.t 0))) (.c (.e (some 5) [] (.box 33 (.t 1))) (.c (.q 8 [] (.mv (.s []))) (.c (.q 9 [] (.mv (.c (.bool false)))) .nil))))) t25_6)
def x_sRepairTouch := b25_0
theorem u25_0 : vcK P x_sRepairTouch k e w = vcK P b25_0 k e w := rfl
def r_sRepairTouch : List XO := [(.mv (.t 8)), (.mv (.t 9))]
theorem c_sRepairTouch : convF Try.prog [89, 116, 117, 121, 143, 161, 162, 163, 166, 168, 234] Try.f25 [([2, 3, 4, 5], []), ([2, 3, 4, 5, 17], []), ([8, 9], []), ([2, 3, 4, 5, 10, 11], []), ([2, 3, 4, 5, 10, 27], []), ([8, 9], []), ([8, 9], [])] = some (x_sRepairTouch, r_sRepairTouch) := by kernel_rfl
def us_sRepairTouch := aI @u25_0 (aI @u25_1 (aI @u25_2 (aI @u25_3 (aI @u25_4 (aI @u25_5 @u25_6)))))
abbrev b26_1 : X := (.cond (.t 30) (.seq (.reg [8, 9] (.c (.q 8 [] (.mv (.s []))) (.c (.q 9 [] (.mv (.c (.bool false)))) .nil))) .ret) .skip)
def t26_1 := b26_1
theorem u26_1 : vcK P t26_1 k e w = vcK P b26_1 k e w := rfl
abbrev b26_2 : X := (.cond (.t 40) (.seq (.reg [8, 9] (.c (.q 8 [] (.mv (.s []))) (.c (.q 9 [] (.mv (.c (.bool false)))) .nil))) .ret) .skip)
def t26_2 := b26_2
theorem u26_2 : vcK P t26_2 k e w = vcK P b26_2 k e w := rfl
abbrev b26_3 : X := (.cond (.t 59) .skip (.exit 0))
def t26_3 := b26_3
theorem u26_3 : vcK P t26_3 k e w = vcK P b26_3 k e w := rfl
abbrev b26_4 : X := (.cond (.t 89) (.reg [2, 4, 5, 10, 12, 13, 14, 16, 69, 70, 71, 75, 76, 77] (.c (.q 90 [] (.mv (.t 13))) (.c (.q 91 [] (.mv (.t 14))) (.c (.q 92 [] (.ia 1 (.t 90) (.t 91))) (.c (.q 93 [] (.ld (.t 92))) (.c (.q 94 [] (.mv (.t 16))) (.c (.e none [] (.mup false .string (.t 93) (.t 94) (.c (.bool true)))) .nil))))))) .skip)
def t26_4 := b26_4
theorem u26_4 : vcK P t26_4 k e w = vcK P b26_4 k e w := rfl
abbrev b26_5 : X := (.seq (.drw [2, 4, 5, 10, 12, 13, 14, 16, 69, 70, 71, 75, 76, 77, 89] (.c (.q 81 [] (.mv (.t 13))) (.c (.q 82 [] (.mv (.t 14))) (.c (.q 83 [] (.bin .add (.t 82) (.c (.int .i64 1)))) (.c (.q 84 [] (.ia 1 (.t 81) (.t 83))) (.c (.q 85 [] (.ld (.t 84))) (.c (.q 86 [] (.mv (.t 16))) (.c (.q 87 [] (.mv (.t 18))) (.c (.e (some 88) [] (.call false 75 [(.t 86), (.t 87)])) (.c (.q 89 [] (.mlk false .string (.bool false) (.t 85) (.t 88))) .nil)))))))))) t26_4)
def t26_5 := b26_5
theorem u26_5 : vcK P t26_5 k e w = vcK P b26_5 k e w := rfl
abbrev b26_6 : X := (.reg [2, 4, 5, 10, 12, 13, 14, 16, 69, 70, 71, 75, 76, 77] (.c (.q 95 [] (.bin .add (.t 77) (.c (.int .i64 1)))) (.c (.q 77 [] (.mv (.t 95))) .nil)))
def t26_6 := b26_6
theorem u26_6 : vcK P t26_6 k e w = vcK P b26_6 k e w := rfl
abbrev b26_7 : X := (.seq (.blk 5 (.seq (.reg [2, 4, 5, 10, 12, 13, 14, 16, 18, 69, 70, 71, 75, 76, 77] (.c (.q 79 [] (.ia 1 (.t 75) (.t 77))) (.c (.q 80 [] (.ld (.t 79))) (.c (.q 18 [] (.mv (.t 80))) .nil)))) t26_5)) t26_6)
def t26_7 := b26_7
theorem u26_7 : vcK P t26_7 k e w = vcK P b26_7 k e w := rfl
abbrev b26_8 : X := (.seq (.cond (.t 78) .skip (.exit 4)) t26_7)
def t26_8 := b26_8
theorem u26_8 : vcK P t26_8 k e w = vcK P b26_8 k e w := rfl
abbrev b26_9 : X := (.seq (.reg [2, 4, 5, 10, 12, 13, 14, 16, 69, 70, 71, 75, 76, 77, 78] (.c (.q 78 [] (.bin .lss (.t 77) (.t 76))) .nil)) t26_8)
def t26_9 := b26_9
theorem u26_9 : vcK P t26_9 k e w = vcK P b26_9 k e w := rfl
abbrev b26_10 : X := (.blk 4 (.loop [77] [2, 4, 5, 10, 12, 13, 14, 16, 69, 70, 71, 75, 76] t26_9))
def t26_10 := b26_10
theorem u26_10 : vcK P t26_10 k e w = vcK P b26_10 k e w := rfl
abbrev b26_11 : X := (.seq (.reg [2, 4, 5, 10, 12, 13, 14, 16, 69, 70, 71, 75, 76, 77] (.c (.q 75 [] (.mv (.t 12))) (.c (.q 76 [] (.lens (.t 75))) (.c (.q 77 [] (.mv (.c (.int .i64 0)))) .nil)))) t26_10)
def t26_11 := b26_11
theorem u26_11 : vcK P t26_11 k e w = vcK P b26_11 k e w := rfl
abbrev b26_12 : X := (.reg [2, 4, 5, 10, 12, 13, 14, 69, 70, 71] (.c (.q 96 [] (.bin .add (.t 71) (.c (.int .i64 1)))) (.c (.q 71 [] (.mv (.t 96))) .nil)))
def t26_12 := b26_12
theorem u26_12 : vcK P t26_12 k e w = vcK P b26_12 k e w := rfl
abbrev b26_13 : X := (.seq (.blk 3 (.seq (.reg [2, 4, 5, 10, 12, 13, 14, 16, 69, 70, 71] (.c (.q 73 [] (.ia 1 (.t 69) (.t 71))) (.c (.q 74 [] (.ld (.t 73))) (.c (.q 16 [] (.mv (.t 74))) .nil)))) t26_11)) t26_12)
def t26_13 := b26_13
theorem u26_13 : vcK P t26_13 k e w = vcK P b26_13 k e w := rfl
abbrev b26_14 : X := (.seq (.cond (.t 72) .skip (.exit 2)) t26_13)
def t26_14 := b26_14
theorem u26_14 : vcK P t26_14 k e w = vcK P b26_14 k e w := rfl
abbrev b26_15 : X := (.seq (.reg [2, 4, 5, 10, 12, 13, 14, 69, 70, 71, 72] (.c (.q 72 [] (.bin .lss (.t 71) (.t 70))) .nil)) t26_14)
def t26_15 := b26_15
theorem u26_15 : vcK P t26_15 k e w = vcK P b26_15 k e w := rfl
abbrev b26_16 : X := (.blk 2 (.loop [71] [2, 4, 5, 10, 12, 13, 14, 69, 70] t26_15))
def t26_16 := b26_16
theorem u26_16 : vcK P t26_16 k e w = vcK P b26_16 k e w := rfl
abbrev b26_17 : X := (.seq (.reg [2, 4, 5, 10, 12, 13, 14, 69, 70, 71] (.c (.q 66 [] (.mv (.t 10))) (.c (.q 67 [] (.mv (.t 14))) (.c (.q 68 [] (.ia 1 (.t 66) (.t 67))) (.c (.q 69 [] (.ld (.t 68))) (.c (.q 70 [] (.lens (.t 69))) (.c (.q 71 [] (.mv (.c (.int .i64 0)))) .nil))))))) t26_16)
def t26_17 := b26_17
theorem u26_17 : vcK P t26_17 k e w = vcK P b26_17 k e w := rfl
abbrev b26_18 : X := (.reg [2, 4, 5, 10, 12, 13, 14] (.c (.q 60 [] (.mv (.t 14))) (.c (.q 61 [] (.bin .sub (.t 60) (.c (.int .i64 1)))) (.c (.q 14 [] (.mv (.t 61))) .nil))))
def t26_18 := b26_18
theorem u26_18 : vcK P t26_18 k e w = vcK P b26_18 k e w := rfl
abbrev b26_19 : X := (.seq (.blk 1 (.seq (.reg [2, 4, 5, 10, 12, 13, 14] (.c (.q 62 [] (.mv (.t 13))) (.c (.q 63 [] (.mv (.t 14))) (.c (.e (some 64) [] .mkmap) (.c (.q 65 [] (.ia 1 (.t 62) (.t 63))) (.c (.e none [] (.st 1 (.t 65) (.t 64))) .nil)))))) t26_17)) t26_18)
def t26_19 := b26_19
theorem u26_19 : vcK P t26_19 k e w = vcK P b26_19 k e w := rfl
abbrev b26_20 : X := (.seq (.seq (.reg [2, 4, 5, 10, 12, 13, 14, 59] (.c (.q 58 [] (.mv (.t 14))) (.c (.q 59 [] (.bin .geq (.t 58) (.c (.int .i64 0)))) .nil))) t26_3) t26_19)
def t26_20 := b26_20
theorem u26_20 : vcK P t26_20 k e w = vcK P b26_20 k e w := rfl
abbrev b26_21 : X := (.blk 0 (.loop [14] [2, 4, 5, 10, 12, 13] t26_20))
def t26_21 := b26_21
theorem u26_21 : vcK P t26_21 k e w = vcK P b26_21 k e w := rfl
abbrev b26_22 : X := (.cond (.t 101) .skip (.exit 6))
def t26_22 := b26_22
theorem u26_22 : vcK P t26_22 k e w = vcK P b26_22 k e w := rfl
abbrev b26_23 : X := (.seq (.reg [4, 5, 10, 13, 19, 20, 21] (.c (.q 125 [] (.mv (.t 24))) (.c (.q 20 [] (.mv (.t 125))) .nil))) (.exit 8))
def t26_23 := b26_23
theorem u26_23 : vcK P t26_23 k e w = vcK P b26_23 k e w := rfl
abbrev b26_24 : X := (.cond (.t 121) (.seq (.reg [4, 5, 10, 13, 19, 21, 24] (.c (.q 122 [] (.mv (.t 19))) (.c (.q 123 [] (.mv (.t 23))) (.c (.q 124 [] (.bin .add (.t 122) (.t 123))) (.c (.q 19 [] (.mv (.t 124))) .nil))))) t26_23) .skip)
def t26_24 := b26_24
theorem u26_24 : vcK P t26_24 k e w = vcK P b26_24 k e w := rfl
abbrev b26_25 : X := (.seq (.reg [4, 5, 10, 13, 19, 20, 21, 23, 24, 104, 105, 106, 121] (.c (.q 116 [] (.mv (.t 13))) (.c (.q 117 [] (.mv (.t 21))) (.c (.q 118 [] (.ia 1 (.t 116) (.t 117))) (.c (.q 119 [] (.ld (.t 118))) (.c (.q 120 [] (.mv (.t 24))) (.c (.q 121 [] (.mlk false .string (.bool false) (.t 119) (.t 120))) .nil))))))) t26_24)
def t26_25 := b26_25
theorem u26_25 : vcK P t26_25 k e w = vcK P b26_25 k e w := rfl
abbrev b26_26 : X := (.seq (.reg [4, 5, 10, 13, 19, 20, 21, 23, 24, 104, 105, 106] (.c (.q 110 [] (.mv (.t 20))) (.c (.q 111 [] (.lda 3 (.t 4))) (.c (.q 112 [] (.lda 2 (.t 5))) (.c (.q 113 [] (.mv (.t 23))) (.c (.e (some 114) [] (.call false 76 [(.t 111), (.t 112), (.t 113)])) (.c (.e (some 115) [] (.call false 75 [(.t 110), (.t 114)])) (.c (.q 24 [] (.mv (.t 115))) .nil)))))))) t26_25)
def t26_26 := b26_26
theorem u26_26 : vcK P t26_26 k e w = vcK P b26_26 k e w := rfl
abbrev b26_27 : X := (.reg [4, 5, 10, 13, 19, 20, 21, 104, 105, 106] (.c (.q 126 [] (.bin .add (.t 106) (.c (.int .i64 1)))) (.c (.q 106 [] (.mv (.t 126))) .nil)))
def t26_27 := b26_27
theorem u26_27 : vcK P t26_27 k e w = vcK P b26_27 k e w := rfl
abbrev b26_28 : X := (.seq (.blk 9 (.seq (.reg [4, 5, 10, 13, 19, 20, 21, 23, 104, 105, 106] (.c (.q 108 [] (.ia 1 (.t 104) (.t 106))) (.c (.q 109 [] (.ld (.t 108))) (.c (.q 23 [] (.mv (.t 109))) .nil)))) t26_26)) t26_27)
def t26_28 := b26_28
theorem u26_28 : vcK P t26_28 k e w = vcK P b26_28 k e w := rfl
abbrev b26_29 : X := (.seq (.cond (.t 107) .skip (.exit 8)) t26_28)
def t26_29 := b26_29
theorem u26_29 : vcK P t26_29 k e w = vcK P b26_29 k e w := rfl
abbrev b26_30 : X := (.seq (.reg [4, 5, 10, 13, 19, 20, 21, 104, 105, 106, 107] (.c (.q 107 [] (.bin .lss (.t 106) (.t 105))) .nil)) t26_29)
def t26_30 := b26_30
theorem u26_30 : vcK P t26_30 k e w = vcK P b26_30 k e w := rfl
abbrev b26_31 : X := (.blk 8 (.loop [19, 20, 106] [4, 5, 10, 13, 21, 104, 105] t26_30))
def t26_31 := b26_31
theorem u26_31 : vcK P t26_31 k e w = vcK P b26_31 k e w := rfl
abbrev b26_32 : X := (.reg [4, 5, 10, 13, 19, 20, 21] (.c (.q 102 [] (.mv (.t 21))) (.c (.q 103 [] (.bin .add (.t 102) (.c (.int .i64 1)))) (.c (.q 21 [] (.mv (.t 103))) .nil))))
def t26_32 := b26_32
theorem u26_32 : vcK P t26_32 k e w = vcK P b26_32 k e w := rfl
abbrev b26_33 : X := (.seq (.blk 7 (.seq (.reg [4, 5, 10, 13, 19, 20, 21, 104, 105, 106] (.c (.e (some 104) [] (.bsl 9 1 [(.s [98]), (.s [112]), (.s [115])])) (.c (.q 105 [] (.lens (.t 104))) (.c (.q 106 [] (.mv (.c (.int .i64 0)))) .nil)))) t26_31)) t26_32)
def t26_33 := b26_33
theorem u26_33 : vcK P t26_33 k e w = vcK P b26_33 k e w := rfl
abbrev b26_34 : X := (.seq (.seq (.reg [4, 5, 10, 13, 19, 20, 21, 101] (.c (.q 98 [] (.mv (.t 21))) (.c (.q 99 [] (.mv (.t 10))) (.c (.q 100 [] (.lens (.t 99))) (.c (.q 101 [] (.bin .lss (.t 98) (.t 100))) .nil))))) t26_22) t26_33)
def t26_34 := b26_34
theorem u26_34 : vcK P t26_34 k e w = vcK P b26_34 k e w := rfl
abbrev b26_35 : X := (.blk 6 (.loop [19, 20, 21] [4, 5, 10, 13] t26_34))
def t26_35 := b26_35
theorem u26_35 : vcK P t26_35 k e w = vcK P b26_35 k e w := rfl
abbrev b26_36 : X := (.seq (.reg [8, 9] (.c (.q 127 [] (.mv (.t 19))) (.c (.q 8 [] (.mv (.t 127))) (.c (.q 9 [] (.mv (.c (.bool true)))) .nil)))) .ret)
def t26_36 := b26_36
theorem u26_36 : vcK P t26_36 k e w = vcK P b26_36 k e w := rfl
abbrev b26_37 : X := (.seq (.seq (.reg [4, 5, 10, 13, 19, 20, 21] (.c (.q 21 [] (.mv (.c (.int .i64 1)))) .nil)) t26_35) t26_36)
def t26_37 := b26_37
theorem u26_37 : vcK P t26_37 k e w = vcK P b26_37 k e w := rfl
abbrev b26_38 : X := (.seq (.reg [4, 5, 10, 13, 19, 20] (.c (.q 97 [] (.mv (.t 2))) (.c (.q 19 [] (.mv (.s []))) (.c (.q 20 [] (.mv (.t 97))) .nil)))) t26_37)
def t26_38 := b26_38
theorem u26_38 : vcK P t26_38 k e w = vcK P b26_38 k e w := rfl
abbrev b26_39 : X := (.seq (.seq (.reg [2, 4, 5, 10, 12, 13, 14] (.c (.q 55 [] (.mv (.t 10))) (.c (.q 56 [] (.lens (.t 55))) (.c (.q 57 [] (.bin .sub (.t 56) (.c (.int .i64 2)))) (.c (.q 14 [] (.mv (.t 57))) .nil))))) t26_21) t26_38)
def t26_39 := b26_39
theorem u26_39 : vcK P t26_39 k e w = vcK P b26_39 k e w := rfl
abbrev b26_40 : X := (.seq (.reg [2, 4, 5, 10, 12, 13] (.c (.q 47 [] (.mv (.t 13))) (.c (.q 48 [] (.mv (.t 10))) (.c (.q 49 [] (.lens (.t 48))) (.c (.q 50 [] (.bin .sub (.t 49) (.c (.int .i64 1)))) (.c (.e (some 51) [] .mkmap) (.c (.q 52 [] (.mv (.t 3))) (.c (.e none [] (.mup false .string (.t 51) (.t 52) (.c (.bool true)))) (.c (.q 53 [] (.mv (.t 51))) (.c (.q 54 [] (.ia 1 (.t 47) (.t 50))) (.c (.e none [] (.st 1 (.t 54) (.t 53))) .nil))))))))))) t26_39)
def t26_40 := b26_40
theorem u26_40 : vcK P t26_40 k e w = vcK P b26_40 k e w := rfl
abbrev b26_41 : X := (.seq (.reg [2, 3, 4, 5, 10, 12, 13] (.c (.q 44 [] (.mv (.t 10))) (.c (.q 45 [] (.lens (.t 44))) (.c (.e (some 46) [] (.msl 96 97 1 8 [(.map none)] (.t 45) (.t 45))) (.c (.q 13 [] (.mv (.t 46))) .nil))))) t26_40)
def t26_41 := b26_41
theorem u26_41 : vcK P t26_41 k e w = vcK P b26_41 k e w := rfl
abbrev b26_42 : X := (.seq (.reg [2, 3, 4, 5, 10, 12] (.c (.q 41 [] (.lda 3 (.t 4))) (.c (.q 42 [] (.lda 2 (.t 5))) (.c (.e (some 43) [] (.call false 74 [(.t 41), (.t 42)])) (.c (.q 12 [] (.mv (.t 43))) .nil))))) t26_41)
def t26_42 := b26_42
theorem u26_42 : vcK P t26_42 k e w = vcK P b26_42 k e w := rfl
abbrev b26_43 : X := (.seq (.seq (.reg [2, 3, 4, 5, 10, 40] (.c (.q 39 [] (.mv (.t 11))) (.c (.q 40 [] (.not (.t 39))) .nil))) t26_2) t26_42)
def t26_43 := b26_43
theorem u26_43 : vcK P t26_43 k e w = vcK P b26_43 k e w := rfl
abbrev b26_44 : X := (.seq (.reg [2, 3, 4, 5, 10, 11] (.c (.q 32 [] (.lda 3 (.t 4))) (.c (.q 33 [] (.lda 2 (.t 5))) (.c (.q 34 [] (.mv (.t 2))) (.c (.q 35 [] (.mv (.t 3))) (.c (.e (some 36) [] (.call false 73 [(.t 32), (.t 33), (.t 34), (.t 35)])) (.c (.q 31 [] (.mv (.t 36))) (.c (.q 37 [] (.ext 0 (.t 31))) (.c (.q 38 [] (.ext 1 (.t 31))) (.c (.q 10 [] (.mv (.t 37))) (.c (.q 11 [] (.mv (.t 38))) .nil))))))))))) t26_43)
def t26_44 := b26_44
theorem u26_44 : vcK P t26_44 k e w = vcK P b26_44 k e w := rfl
abbrev b26_45 : X := (.seq (.seq (.reg [2, 3, 4, 5, 30] (.c (.q 25 [] (.lda 3 (.t 4))) (.c (.q 26 [] (.lda 2 (.t 5))) (.c (.q 27 [] (.mv (.t 2))) (.c (.q 28 [] (.mv (.t 3))) (.c (.e (some 29) [] (.call false 72 [(.t 25), (.t 26), (.t 27), (.t 28)])) (.c (.q 30 [] (.not (.t 29))) .nil))))))) t26_1) t26_44)
def t26_45 := b26_45
theorem u26_45 : vcK P t26_45 k e w = vcK P b26_45 k e w := rfl
abbrev b26_0 : X := (.seq (.reg [2, 3, 4, 5] (.c (.e (some 4) [] (.box 31 (.t 0))) (.c (.e (some 5) [] (.box 33 (.t 1))) (.c (.q 8 [] (.mv (.s []))) (.c (.q 9 [] (.mv (.c (.bool false)))) .nil))))) t26_45)
def x_iRepairTouch := b26_0
theorem u26_0 : vcK P x_iRepairTouch k e w = vcK P b26_0 k e w := rfl
def r_iRepairTouch : List XO := [(.mv (.t 8)), (.mv (.t 9))]
theorem c_iRepairTouch : convF Try.prog [89, 116, 117, 121, 143, 161, 162, 163, 166, 168, 234] Try.f26 [([2, 3, 4, 5], []), ([2, 3, 4, 5, 30], []), ([8, 9], []), ([2, 3, 4, 5, 10, 11], []), ([2, 3, 4, 5, 10, 40], []), ([8, 9], []), ([2, 3, 4, 5, 10, 12], []), ([2, 3, 4, 5, 10, 12, 13], []), ([2, 4, 5, 10, 12, 13], []), ([2, 4, 5, 10, 12, 13, 14], []), ([14], [2, 4, 5, 10, 12, 13]), ([2, 4, 5, 10, 12, 13, 14, 59], []), ([2, 4, 5, 10, 12, 13, 14], []), ([2, 4, 5, 10, 12, 13, 14, 69, 70, 71], []), ([71], [2, 4, 5, 10, 12, 13, 14, 69, 70]), ([2, 4, 5, 10, 12, 13, 14, 69, 70, 71, 72], []), ([2, 4, 5, 10, 12, 13, 14, 16, 69, 70, 71], []), ([2, 4, 5, 10, 12, 13, 14, 16, 69, 70, 71, 75, 76, 77], []), ([77], [2, 4, 5, 10, 12, 13, 14, 16, 69, 70, 71, 75, 76]), ([2, 4, 5, 10, 12, 13, 14, 16, 69, 70, 71, 75, 76, 77, 78], []), ([2, 4, 5, 10, 12, 13, 14, 16, 18, 69, 70, 71, 75, 76, 77], []), ([2, 4, 5, 10, 12, 13, 14, 16, 69, 70, 71, 75, 76, 77, 89], []), ([2, 4, 5, 10, 12, 13, 14, 16, 69, 70, 71, 75, 76, 77], []), ([2, 4, 5, 10, 12, 13, 14, 16, 69, 70, 71, 75, 76, 77], []), ([2, 4, 5, 10, 12, 13, 14, 69, 70, 71], []), ([2, 4, 5, 10, 12, 13, 14], []), ([4, 5, 10, 13, 19, 20], []), ([4, 5, 10, 13, 19, 20, 21], []), ([19, 20, 21], [4, 5, 10, 13]), ([4, 5, 10, 13, 19, 20, 21, 101], []), ([4, 5, 10, 13, 19, 20, 21, 104, 105, 106], []), ([19, 20, 106], [4, 5, 10, 13, 21, 104, 105]), ([4, 5, 10, 13, 19, 20, 21, 104, 105, 106, 107], []), ([4, 5, 10, 13, 19, 20, 21, 23, 104, 105, 106], []), ([4, 5, 10, 13, 19, 20, 21, 23, 24, 104, 105, 106], []), ([4, 5, 10, 13, 19, 20, 21, 23, 24, 104, 105, 106, 121], []), ([4, 5, 10, 13, 19, 21, 24], []), ([4, 5, 10, 13, 19, 20, 21], []), ([4, 5, 10, 13, 19, 20, 21, 104, 105, 106], []), ([4, 5, 10, 13, 19, 20, 21], []), ([8, 9], [])] = some (x_iRepairTouch, r_iRepairTouch) := by kernel_rfl
def us_iRepairTouch := aI @u26_0 (aI @u26_1 (aI @u26_2 (aI @u26_3 (aI @u26_4 (aI @u26_5 (aI @u26_6 (aI @u26_7 (aI @u26_8 (aI @u26_9 (aI @u26_10 (aI @u26_11 (aI @u26_12 (aI @u26_13 (aI @u26_14 (aI @u26_15 (aI @u26_16 (aI @u26_17 (aI @u26_18 (aI @u26_19 (aI @u26_20 (aI @u26_21 (aI @u26_22 (aI @u26_23 (aI @u26_24 (aI @u26_25 (aI @u26_26 (aI @u26_27 (aI @u26_28 (aI @u26_29 (aI @u26_30 (aI @u26_31 (aI @u26_32 (aI @u26_33 (aI @u26_34 (aI @u26_35 (aI @u26_36 (aI @u26_37 (aI @u26_38 (aI @u26_39 (aI @u26_40 (aI @u26_41 (aI @u26_42 (aI @u26_43 (aI @u26_44 @u26_45))))))))))))))))))))))))))))))))))))))))))))
abbrev b5_1 : X := (.cond (.t 17) (.seq (.reg [8] (.c (.q 8 [] (.mv (.c (.bool true)))) .nil)) .ret) .skip)
def t5_1 := b5_1
theorem u5_1 : vcK P t5_1 k e w = vcK P b5_1 k e w := rfl
abbrev b5_2 : X := (.cond (.t 20) (.seq (.reg [8] (.c (.q 8 [] (.mv (.c (.bool true)))) .nil)) .ret) .skip)
def t5_2 := b5_2
theorem u5_2 : vcK P t5_2 k e w = vcK P b5_2 k e w := rfl
abbrev b5_3 : X := (.cond (.t 25) (.seq (.reg [8] (.c (.q 8 [] (.mv (.c (.bool true)))) .nil)) .ret) .skip)
def t5_3 := b5_3
theorem u5_3 : vcK P t5_3 k e w = vcK P b5_3 k e w := rfl
abbrev b5_4 : X := (.cond (.t 30) (.seq (.reg [8] (.c (.q 8 [] (.mv (.c (.bool true)))) .nil)) .ret) .skip)
def t5_4 := b5_4
theorem u5_4 : vcK P t5_4 k e w = vcK P b5_4 k e w := rfl
abbrev b5_5 : X := (.cond (.t 59) (.seq (.reg [8] (.c (.q 8 [] (.mv (.c (.bool false)))) .nil)) .ret) .skip)
def t5_5 := b5_5
theorem u5_5 : vcK P t5_5 k e w = vcK P b5_5 k e w := rfl
abbrev b5_6 : X := (.cond (.t 64) (.seq (.reg [8] (.c (.q 8 [] (.mv (.c (.bool false)))) .nil)) .ret) .skip)
def t5_6 := b5_6
theorem u5_6 : vcK P t5_6 k e w = vcK P b5_6 k e w := rfl
abbrev b5_7 : X := (.seq (.reg [8] (.c (.q 8 [] (.mv (.c (.bool true)))) .nil)) .ret)
def t5_7 := b5_7
theorem u5_7 : vcK P t5_7 k e w = vcK P b5_7 k e w := rfl
abbrev b5_8 : X := (.seq (.seq (.drw [64] (.c (.q 60 [] (.lda 3 (.t 12))) (.c (.q 61 [] (.lda 3 (.t 4))) (.c (.e (some 62) [] (.call false 15 [(.t 61)])) (.c (.e (some 63) [] (.call false 18 [(.t 60), (.t 62)])) (.c (.q 64 [] (.not (.t 63))) .nil)))))) t5_6) t5_7)
def t5_8 := b5_8
theorem u5_8 : vcK P t5_8 k e w = vcK P b5_8 k e w := rfl
abbrev b5_9 : X := (.seq (.seq (.reg [4, 12, 59] (.c (.q 52 [] (.mv (.t 13))) (.c (.q 53 [] (.mv (.t 10))) (.c (.q 54 [] (.bin .neq (.t 52) (.t 53))) (.c (.q 55 [] (.mv (.t 54))) (.c (.q 56 [(55, false)] (.mv (.t 14))) (.c (.q 57 [(55, false)] (.mv (.t 11))) (.c (.q 58 [(55, false)] (.beq true (.t 56) (.t 57))) (.c (.q 59 [] (.pick (.t 55) (.c (.bool true)) (.t 58))) .nil))))))))) t5_5) t5_8)
def t5_9 := b5_9
theorem u5_9 : vcK P t5_9 k e w = vcK P b5_9 k e w := rfl
abbrev b5_10 : X := (.seq (.drw [4, 10, 11, 12, 13, 14] (.c (.q 44 [] (.lda 3 (.t 12))) (.c (.q 45 [] (.lda 2 (.t 5))) (.c (.q 47 [] (.mv (.t 2))) (.c (.q 48 [] (.mv (.t 3))) (.c (.e (some 46) [] (.call false 16 [(.t 45)])) (.c (.e (some 49) [] (.call false 26 [(.t 44), (.t 46), (.t 47), (.t 48)])) (.c (.q 43 [] (.mv (.t 49))) (.c (.q 50 [] (.ext 0 (.t 43))) (.c (.q 51 [] (.ext 1 (.t 43))) (.c (.q 13 [] (.mv (.t 50))) (.c (.q 14 [] (.mv (.t 51))) .nil)))))))))))) t5_9)
def t5_10 := b5_10
theorem u5_10 : vcK P t5_10 k e w = vcK P b5_10 k e w := rfl
abbrev b5_11 : X := (.seq (.reg [2, 3, 4, 5, 10, 11, 12] (.c (.q 41 [] (.lda 3 (.t 4))) (.c (.e (some 42) [] (.call false 15 [(.t 41)])) (.c (.e (some 12) [] (.al 31 [(S []), (.int .i64 0), (.slice none 0 0)])) (.c (.e none [] (.st 3 (.t 12) (.t 42))) .nil))))) t5_10)
def t5_11 := b5_11
theorem u5_11 : vcK P t5_11 k e w = vcK P b5_11 k e w := rfl
abbrev b5_12 : X := (.seq (.drw [2, 3, 4, 5, 10, 11] (.c (.q 32 [] (.lda 3 (.t 4))) (.c (.q 34 [] (.lda 2 (.t 5))) (.c (.q 36 [] (.mv (.t 2))) (.c (.q 37 [] (.mv (.t 3))) (.c (.e (some 33) [] (.call false 15 [(.t 32)])) (.c (.e (some 35) [] (.call false 16 [(.t 34)])) (.c (.e (some 38) [] (.call false 25 [(.t 33), (.t 35), (.t 36), (.t 37)])) (.c (.q 31 [] (.mv (.t 38))) (.c (.q 39 [] (.ext 0 (.t 31))) (.c (.q 40 [] (.ext 1 (.t 31))) (.c (.q 10 [] (.mv (.t 39))) (.c (.q 11 [] (.mv (.t 40))) .nil))))))))))))) t5_11)
def t5_12 := b5_12
theorem u5_12 : vcK P t5_12 k e w = vcK P b5_12 k e w := rfl
abbrev b5_13 : X := (.seq (.seq (.reg [2, 3, 4, 5, 30] (.c (.q 29 [] (.mv (.t 9))) (.c (.q 30 [] (.bin .lss (.t 29) (.c (.int .i64 0)))) .nil))) t5_4) t5_12)
def t5_13 := b5_13
theorem u5_13 : vcK P t5_13 k e w = vcK P b5_13 k e w := rfl
abbrev b5_14 : X := (.seq (.reg [2, 3, 4, 5, 9] (.c (.q 26 [] (.lda 2 (.t 5))) (.c (.q 27 [] (.mv (.t 9))) (.c (.e (some 28) [] (.call false 13 [(.t 26), (.t 27)])) (.c (.q 9 [] (.mv (.t 28))) .nil))))) t5_13)
def t5_14 := b5_14
theorem u5_14 : vcK P t5_14 k e w = vcK P b5_14 k e w := rfl
abbrev b5_15 : X := (.seq (.seq (.reg [2, 3, 4, 5, 9, 25] (.c (.q 24 [] (.mv (.t 9))) (.c (.q 25 [] (.bin .lss (.t 24) (.c (.int .i64 0)))) .nil))) t5_3) t5_14)
def t5_15 := b5_15
theorem u5_15 : vcK P t5_15 k e w = vcK P b5_15 k e w := rfl
abbrev b5_16 : X := (.seq (.reg [2, 3, 4, 5, 9] (.c (.q 21 [] (.lda 3 (.t 4))) (.c (.q 22 [] (.mv (.t 9))) (.c (.e (some 23) [] (.call false 12 [(.t 21), (.t 22)])) (.c (.q 9 [] (.mv (.t 23))) .nil))))) t5_15)
def t5_16 := b5_16
theorem u5_16 : vcK P t5_16 k e w = vcK P b5_16 k e w := rfl
abbrev b5_17 : X := (.seq (.reg [2, 3, 4, 5, 9] (.c (.q 9 [] (.mv (.c (.int .i64 1048576)))) .nil)) t5_16)
def t5_17 := b5_17
theorem u5_17 : vcK P t5_17 k e w = vcK P b5_17 k e w := rfl
abbrev b5_18 : X := (.seq (.seq (.reg [2, 3, 4, 5, 20] (.c (.q 18 [] (.mv (.t 3))) (.c (.q 19 [] (.len (.t 18))) (.c (.q 20 [] (.bin .gtr (.t 19) (.c (.int .i64 1048576)))) .nil)))) t5_2) t5_17)
def t5_18 := b5_18
theorem u5_18 : vcK P t5_18 k e w = vcK P b5_18 k e w := rfl
abbrev b5_19 : X := (.seq (.seq (.reg [2, 3, 4, 5, 17] (.c (.q 15 [] (.mv (.t 2))) (.c (.q 16 [] (.len (.t 15))) (.c (.q 17 [] (.bin .gtr (.t 16) (.c (.int .i64 1048576)))) .nil)))) t5_1) t5_18)
def t5_19 := b5_19
theorem u5_19 : vcK P t5_19 k e w = vcK P b5_19 k e w := rfl
abbrev b5_0 : X := (.seq (.reg [2, 3, 4, 5] (.c (.e (some 4) [] (.box 24 (.t 0))) (.c (.e (some 5) [] (.box 26 (.t 1))) (.c (.q 8 [] (.mv (.c (.bool false)))) .nil)))) t5_19)
def x_lFnExactRepairTouch := b5_0
theorem u5_0 : vcK P x_lFnExactRepairTouch k e w = vcK P b5_0 k e w := rfl
def r_lFnExactRepairTouch : List XO := [(.mv (.t 8))]
theorem c_lFnExactRepairTouch : convF Try.prog [89, 116, 117, 121, 143, 161, 162, 163, 166, 168, 234] Try.f5 [([2, 3, 4, 5], []), ([2, 3, 4, 5, 17], []), ([8], []), ([2, 3, 4, 5, 20], []), ([8], []), ([2, 3, 4, 5, 9], []), ([2, 3, 4, 5, 9], []), ([2, 3, 4, 5, 9, 25], []), ([8], []), ([2, 3, 4, 5, 9], []), ([2, 3, 4, 5, 30], []), ([8], []), ([2, 3, 4, 5, 10, 11], []), ([2, 3, 4, 5, 10, 11, 12], []), ([4, 10, 11, 12, 13, 14], []), ([4, 12, 59], []), ([8], []), ([64], []), ([8], []), ([8], [])] = some (x_lFnExactRepairTouch, r_lFnExactRepairTouch) := by kernel_rfl
def us_lFnExactRepairTouch := aI @u5_0 (aI @u5_1 (aI @u5_2 (aI @u5_3 (aI @u5_4 (aI @u5_5 (aI @u5_6 (aI @u5_7 (aI @u5_8 (aI @u5_9 (aI @u5_10 (aI @u5_11 (aI @u5_12 (aI @u5_13 (aI @u5_14 (aI @u5_15 (aI @u5_16 (aI @u5_17 (aI @u5_18 @u5_19))))))))))))))))))
end

def lstV (H : UInt8 → Bs) (t : Bs) (n : Nat) (f : Bs) : Value := match leastT H t n f with
  | some x => .tuple ⟨[S x, .bool true]⟩
  | none => .tuple ⟨[S [], .bool false]⟩
theorem leastT_len {H : UInt8 → Bs} {t : Bs} : ∀ {n : Nat} {f x : Bs}, leastT H t n f = some x → x.length = n := by
  intro n
  induction n with
  | zero => intro f x h; rw [leastT] at h; split at h <;> cases h; rfl
  | succ n ih =>
    intro f x h
    cases h1 : leastT H t n (timesL f (H 98)) with
    | some y => rw [leastT_b h1] at h; cases h; simp [ih h1]
    | none =>
      cases h2 : leastT H t n (timesL f (H 112)) with
      | some y => rw [leastT_p h1 h2] at h; cases h; simp [ih h2]
      | none =>
        cases h3 : leastT H t n (timesL f (H 115)) with
        | some y => rw [leastT_s h1 h2 h3] at h; cases h; simp [ih h3]
        | none => rw [leastT_n h1 h2 h3] at h; cases h
/-- The letters in order. -/
def bps : List Bs := [[98], [112], [115]]
theorem bps_at {q : Nat} (h : q < 3) : ∃ c : UInt8, bps.getD q [] = [c] := by
  match q, h with
  | 0, _ => exact ⟨98, rfl⟩
  | 1, _ => exact ⟨112, rfl⟩
  | 2, _ => exact ⟨115, rfl⟩
/-- The first letters lead nowhere. -/
def NoneUp (H : UInt8 → Bs) (t : Bs) (n : Nat) (f : Bs) (q : Nat) : Prop := ∀ p < q, ∀ c, bps.getD p [] = [c] → leastT H t n (timesL f (H c)) = none
theorem leastT_at {H : UInt8 → Bs} {t : Bs} {n : Nat} {f x : Bs} {q : Nat} {c : UInt8} (hq : q < 3) (hc : bps.getD q [] = [c]) (hn : NoneUp H t n f q) (h : leastT H t n (timesL f (H c)) = some x) : leastT H t (n + 1) f = some (c :: x) := by
  match q, hq with
  | 0, _ => obtain rfl : 98 = c := by simpa [bps] using hc
            exact leastT_b h
  | 1, _ => obtain rfl : 112 = c := by simpa [bps] using hc
            exact leastT_p (hn 0 (by omega) 98 rfl) h
  | 2, _ => obtain rfl : 115 = c := by simpa [bps] using hc
            exact leastT_s (hn 0 (by omega) 98 rfl) (hn 1 (by omega) 112 rfl) h
theorem leastT_end {H : UInt8 → Bs} {t : Bs} {n : Nat} {f : Bs} (hn : NoneUp H t n f 3) : leastT H t (n + 1) f = none :=
  leastT_n (hn 0 (by omega) 98 rfl) (hn 1 (by omega) 112 rfl) (hn 2 (by omega) 115 rfl)
theorem sl15Least_ok (nm : Bs) (st : Nat) (v : Value) (cs : List Bs) (b s t : Bs) (hM : IsMC nm st cs b s) : ∀ (n : Nat), n ≤ 1000 → ∀ (f : Bs), (IsRow f ∧ f.length = st) → ∀ (w : World), Sq fS 1 w v cs → Fn 71 [mV nm st v, kV b s, S f, S t, .int .i64 n] w (fun r _ => r = lstV (HC st cs b s) t n f) := by
  intro n
  induction n with
  | zero =>
    intro hn f hf w h
    (refine callsV_of mix Try.func71 c_sl15Least ?_; simp only [↓vsd, vsn, gW, qd, qv, ev, pick, argE, zipE, ne_eq, eq_self, forall_const, implies_true, if_true, if_false, reduceIte, reduceCtorEq, Nat.reduceEqDiff, Nat.reduceAdd, Nat.reduceLT, ↓us_sl15Least, r_sl15Least])
    refine m_al ?_
    rintro b1 w1 hb1 hblk1 hx1 hs1
    have h1 : Blk w1 b1 (fM nm st v) 31 := hblk1
    simp only [↓vsd, vsn, gW, qd, qv, ev, pick, argE, zipE, ne_eq, eq_self, forall_const, implies_true, if_true, if_false, reduceIte, reduceCtorEq, Nat.reduceEqDiff, Nat.reduceAdd, Nat.reduceLT, ↓us_sl15Least, r_sl15Least, h1.facts, fMg]
    refine m_al ?_
    rintro b2 w2 hb2 hblk2 hx2 hs2
    have h2 : Blk w2 b2 (fQ b s) 33 := hblk2
    have h12 := h1.ext hx2
    have hx12 := hx1.trans hx2
    simp only [↓vsd, vsn, gW, qd, qv, ev, pick, argE, zipE, ne_eq, eq_self, forall_const, implies_true, if_true, if_false, reduceIte, reduceCtorEq, Nat.reduceEqDiff, Nat.reduceAdd, Nat.reduceLT, ↓us_sl15Least, r_sl15Least, h12.facts, h2.facts, fMg, fQg]
    by_cases he : f = t
    · have hd : (decide (f = t)) = true := decide_eq_true he
      have hv : lstV (HC st cs b s) t 0 f = .tuple ⟨[S [], .bool true]⟩ := by unfold lstV leastT; rw [if_pos he]
      have h0 : (((0 : Nat) : Int) = 0) := rfl
      simp only [↓vsd, vsn, gW, qd, qv, ev, pick, argE, zipE, ne_eq, eq_self, forall_const, implies_true, if_true, if_false, reduceIte, reduceCtorEq, Nat.reduceEqDiff, Nat.reduceAdd, Nat.reduceLT, ↓us_sl15Least, r_sl15Least, h0, hd]
      exact ⟨hx12, hv.symm⟩
    · have hd : (decide (f = t)) = false := decide_eq_false he
      have hv : lstV (HC st cs b s) t 0 f = .tuple ⟨[S [], .bool false]⟩ := by unfold lstV leastT; rw [if_neg he]
      have h0 : (((0 : Nat) : Int) = 0) := rfl
      simp only [↓vsd, vsn, gW, qd, qv, ev, pick, argE, zipE, ne_eq, eq_self, forall_const, implies_true, if_true, if_false, reduceIte, reduceCtorEq, Nat.reduceEqDiff, Nat.reduceAdd, Nat.reduceLT, ↓us_sl15Least, r_sl15Least, h0, hd]
      exact ⟨hx12, hv.symm⟩
  | succ n ih =>
    intro hn f hf w h
    (refine callsV_of mix Try.func71 c_sl15Least ?_; simp only [↓vsd, vsn, gW, qd, qv, ev, pick, argE, zipE, ne_eq, eq_self, forall_const, implies_true, if_true, if_false, reduceIte, reduceCtorEq, Nat.reduceEqDiff, Nat.reduceAdd, Nat.reduceLT, ↓us_sl15Least, r_sl15Least])
    refine m_al ?_
    rintro b1 w1 hb1 hblk1 hx1 hs1
    have h1 : Blk w1 b1 (fM nm st v) 31 := hblk1
    simp only [↓vsd, vsn, gW, qd, qv, ev, pick, argE, zipE, ne_eq, eq_self, forall_const, implies_true, if_true, if_false, reduceIte, reduceCtorEq, Nat.reduceEqDiff, Nat.reduceAdd, Nat.reduceLT, ↓us_sl15Least, r_sl15Least, h1.facts, fMg]
    refine m_al ?_
    rintro b2 w2 hb2 hblk2 hx2 hs2
    have h2 : Blk w2 b2 (fQ b s) 33 := hblk2
    have h12 := h1.ext hx2
    have hx12 := hx1.trans hx2
    simp only [↓vsd, vsn, gW, qd, qv, ev, pick, argE, zipE, ne_eq, eq_self, forall_const, implies_true, if_true, if_false, reduceIte, reduceCtorEq, Nat.reduceEqDiff, Nat.reduceAdd, Nat.reduceLT, ↓us_sl15Least, r_sl15Least, h12.facts, h2.facts, fMg, fQg]
    have h0 : ¬ (((n + 1 : Nat) : Int) = 0) := by omega
    simp only [↓vsd, vsn, gW, qd, qv, ev, pick, argE, zipE, ne_eq, eq_self, forall_const, implies_true, if_true, if_false, reduceIte, reduceCtorEq, Nat.reduceEqDiff, Nat.reduceAdd, Nat.reduceLT, ↓us_sl15Least, r_sl15Least, h0]
    refine m_bsl (by simp; exact ⟨rfl, rfl, rfl⟩) ?_
    rintro b4 w4 hb4 hblk4 hx4 hs4
    have hK : Own fS 1 9 w2.heap.size w4 (.slice (some ⟨b4, 0, none⟩) 3 3) bps := Own.lits (ls := bps) hblk4 rfl (by omega) (by simp [bps])
    simp only [↓vsd, vsn, gW, qd, qv, ev, pick, argE, zipE, ne_eq, eq_self, forall_const, implies_true, if_true, if_false, reduceIte, reduceCtorEq, Nat.reduceEqDiff, Nat.reduceAdd, Nat.reduceLT, ↓us_sl15Least, r_sl15Least]
    generalize Value.slice (some ⟨b4, 0, none⟩) 3 3 = kv at *
    have hK3 : bps.length = 3 := rfl
    refine m_upto 3 (fun q vs w' => vs = [.int .i64 q] ∧ NoneUp (HC st cs b s) t n f q ∧ Ext w4 w') ⟨rfl, fun p hp => by omega, Ext.refl _⟩ ?_
    rintro q vs w5 hq ⟨rfl, hno, hx5⟩
    have hx25 := hx4.trans hx5
    have h15 := h12.ext hx25
    have h25 := h2.ext hx25
    have hK5 := hK.sq.ext hx5
    have hx05 := hx12.trans hx25
    by_cases hlt : q < 3
    · have hkI : (q : Int) < ((3 : Nat) : Int) := by omega
      have hkJ : ¬ ((3 : Nat) : Int) ≤ q := by omega
      obtain ⟨c, hc⟩ := bps_at hlt
      have a5 := hK5.at1 [] (i := q) (by omega)
      rw [hc] at a5
      have hb := HC_row hM c
      have eI : ((n + 1 : Nat) : Int) - 1 = (n : Int) := by omega
      simp only [↓vsd, vsn, gW, qd, qv, ev, pick, argE, zipE, ne_eq, eq_self, forall_const, implies_true, if_true, if_false, reduceIte, reduceCtorEq, Nat.reduceEqDiff, Nat.reduceAdd, Nat.reduceLT, ↓us_sl15Least, r_sl15Least, hkI, hkJ, hK5.facts, hK3, a5, h15.facts, h25.facts, fMg, fQg, eI]
      refine ⟨by omega, inR_i64 (by omega), ?_⟩
      refine m_call (sl8Head_ok nm st v cs b s [c] hM _ (by first | exact h.ext hx05 | exact h.ext (dr hx05))) ?_
      rintro _ w6 hx6 rfl
      have hx6 : Ext w5 w6 := by first | exact hx6 | exact ud hx6 | exact ud (ud hx6)
      have eH : headC st cs b s [c] = HC st cs b s c := rfl
      simp only [↓vsd, vsn, gW, qd, qv, ev, pick, argE, zipE, ne_eq, eq_self, forall_const, implies_true, if_true, if_false, reduceIte, reduceCtorEq, Nat.reduceEqDiff, Nat.reduceAdd, Nat.reduceLT, ↓us_sl15Least, r_sl15Least, eH]
      refine m_call (sl1Times_ok f _ hb.1 (by rw [hf.2, hb.2]) _) ?_
      rintro _ w7 hx7 rfl
      have hx7 : Ext w6 w7 := by first | exact hx7 | exact ud hx7 | exact ud (ud hx7)
      have hx57 := hx6.trans hx7
      have hx07 := hx05.trans hx57
      have hr7 : IsRow (timesL f (HC st cs b s c)) ∧ (timesL f (HC st cs b s c)).length = st := ⟨timesL_row hf.1 hb.1 (by rw [hf.2, hb.2]), by rw [timesL_len, hb.2]⟩
      simp only [↓vsd, vsn, gW, qd, qv, ev, pick, argE, zipE, ne_eq, eq_self, forall_const, implies_true, if_true, if_false, reduceIte, reduceCtorEq, Nat.reduceEqDiff, Nat.reduceAdd, Nat.reduceLT, ↓us_sl15Least, r_sl15Least]
      refine m_call (ih (by omega) _ hr7 _ (by first | exact h.ext hx07 | exact h.ext (dr hx07))) ?_
      rintro _ w8 hx8 rfl
      have hx8 : Ext w7 w8 := by first | exact hx8 | exact ud hx8 | exact ud (ud hx8)
      have hx58 := hx57.trans hx8
      cases hL : leastT (HC st cs b s) t n (timesL f (HC st cs b s c)) with
      | some x =>
        have hv : lstV (HC st cs b s) t n (timesL f (HC st cs b s c)) = .tuple ⟨[S x, .bool true]⟩ := by unfold lstV; rw [hL]
        have hv2 : lstV (HC st cs b s) t (n + 1) f = .tuple ⟨[S (c :: x), .bool true]⟩ := by unfold lstV; rw [leastT_at hlt hc hno hL]
        have hxl := leastT_len hL
        simp only [↓vsd, vsn, gW, qd, qv, ev, pick, argE, zipE, ne_eq, eq_self, forall_const, implies_true, if_true, if_false, reduceIte, reduceCtorEq, Nat.reduceEqDiff, Nat.reduceAdd, Nat.reduceLT, ↓us_sl15Least, r_sl15Least, hv]
        first
          | exact ⟨hx05.trans hx58, hv2.symm⟩
          | exact ⟨by simp only [List.length_singleton]; omega, hx05.trans hx58, hv2.symm⟩
          | (refine ⟨?_, hx05.trans hx58, hv2.symm⟩; simp; omega)
      | none =>
        have hv : lstV (HC st cs b s) t n (timesL f (HC st cs b s c)) = .tuple ⟨[S [], .bool false]⟩ := by unfold lstV; rw [hL]
        simp only [↓vsd, vsn, gW, qd, qv, ev, pick, argE, zipE, ne_eq, eq_self, forall_const, implies_true, if_true, if_false, reduceIte, reduceCtorEq, Nat.reduceEqDiff, Nat.reduceAdd, Nat.reduceLT, ↓us_sl15Least, r_sl15Least, hv]
        refine ⟨inR_i64 (by omega), UpTo.next hlt ⟨by simp, fun p hp c2 hc2 => ?_, hx5.trans hx58⟩⟩
        by_cases hpq : p = q
        · subst hpq
          rw [hc] at hc2
          obtain rfl : c = c2 := by simpa using hc2
          exact hL
        · exact hno p (by omega) c2 hc2
    · obtain rfl : q = 3 := by omega
      have hkI : ¬ ((3 : Nat) : Int) < ((3 : Nat) : Int) := by omega
      have hv : lstV (HC st cs b s) t (n + 1) f = .tuple ⟨[S [], .bool false]⟩ := by unfold lstV; rw [leastT_end hno]
      simp only [↓vsd, vsn, gW, qd, qv, ev, pick, argE, zipE, ne_eq, eq_self, forall_const, implies_true, if_true, if_false, reduceIte, reduceCtorEq, Nat.reduceEqDiff, Nat.reduceAdd, Nat.reduceLT, ↓us_sl15Least, r_sl15Least, hkI]
      exact ⟨hx05, hv.symm⟩
/-- What RepairTouch answers. -/
def rtV (nm : Bs) (st : Int) (cs : List Bs) (b s f t : Bs) : Value := if RepOk nm st cs b s f t then (match lastK (hs3 (HC st.toNat cs b s)) f t with
  | some K => lstV (HC st.toNat cs b s) t K f
  | none => .tuple ⟨[S [], .bool false]⟩) else .tuple ⟨[S [], .bool false]⟩
theorem sRepairTouch_ok (nm : List UInt8) (st : Int) (v : Value) (cs : List (List UInt8)) (b s f t : List UInt8) (hnm : nm.length ≤ 1048576) (hs : ∀ c ∈ cs, c.length ≤ 1048576) (hl : cs.length ≤ 1000000000) (hb : b.length ≤ 1048576 ∧ s.length ≤ 1048576) (w : World) (h : Sq fS 1 w v cs) : Fn 25 [mV nm st v, kV b s, S f, S t] w (fun r _ => r = rtV nm st cs b s f t) := by
  (refine callsV_of mix Try.func25 c_sRepairTouch ?_; simp only [↓vsd, vsn, gW, qd, qv, ev, pick, argE, zipE, ne_eq, eq_self, forall_const, implies_true, if_true, if_false, reduceIte, reduceCtorEq, Nat.reduceEqDiff, Nat.reduceAdd, Nat.reduceLT, ↓us_sRepairTouch, r_sRepairTouch])
  refine m_al ?_
  rintro b1 w1 hb1 hblk1 hx1 hs1
  have h1 : Blk w1 b1 (fM nm st v) 31 := hblk1
  simp only [↓vsd, vsn, gW, qd, qv, ev, pick, argE, zipE, ne_eq, eq_self, forall_const, implies_true, if_true, if_false, reduceIte, reduceCtorEq, Nat.reduceEqDiff, Nat.reduceAdd, Nat.reduceLT, ↓us_sRepairTouch, r_sRepairTouch, h1.facts, fMg]
  refine m_al ?_
  rintro b2 w2 hb2 hblk2 hx2 hs2
  have h2 : Blk w2 b2 (fQ b s) 33 := hblk2
  have h12 := h1.ext hx2
  have hx12 := hx1.trans hx2
  simp only [↓vsd, vsn, gW, qd, qv, ev, pick, argE, zipE, ne_eq, eq_self, forall_const, implies_true, if_true, if_false, reduceIte, reduceCtorEq, Nat.reduceEqDiff, Nat.reduceAdd, Nat.reduceLT, ↓us_sRepairTouch, r_sRepairTouch, h12.facts, h2.facts, fMg, fQg]
  refine m_call (sl15Asked_ok nm st v cs b s f t hnm hs hl hb _ (by first | exact h.ext hx12 | exact h.ext (dr hx12))) ?_
  rintro _ w3 hx3 rfl
  have hx3 : Ext w2 w3 := by first | exact hx3 | exact ud hx3 | exact ud (ud hx3)
  have hx13 := hx12.trans hx3
  have h13 := h12.ext hx3
  have h23 := h2.ext hx3
  by_cases hR : RepOk nm st cs b s f t
  · obtain ⟨n, rfl⟩ : ∃ n : Nat, st = n := ⟨st.toNat, by have := hR.2.1.1.2.1; omega⟩
    have hf : IsRow f ∧ f.length = n := ⟨hR.2.2.1.1, by have := hR.2.2.1.2; omega⟩
    have hd := decide_eq_true hR
    simp only [↓vsd, vsn, gW, qd, qv, ev, pick, argE, zipE, ne_eq, eq_self, forall_const, implies_true, if_true, if_false, reduceIte, reduceCtorEq, Nat.reduceEqDiff, Nat.reduceAdd, Nat.reduceLT, ↓us_sRepairTouch, r_sRepairTouch, hd, h13.facts, h23.facts, fMg, fQg]
    refine m_call (sl15Layers_ok nm n v cs b s f t hR.2.1 hf _ (by first | exact h.ext hx13 | exact h.ext (dr hx13))) ?_
    rintro _ w4 hx4 ⟨x, rfl, hN⟩
    have hx4 : Ext w3 w4 := by first | exact hx4 | exact ud hx4 | exact ud (ud hx4)
    have hx14 := hx13.trans hx4
    have h14 := h13.ext hx4
    have h24 := h23.ext hx4
    unfold laysV at hN
    cases hK : lastK (hs3 (HC n cs b s)) f t with
    | none =>
      have hv : rtV nm n cs b s f t = .tuple ⟨[S [], .bool false]⟩ := by unfold rtV; rw [if_pos hR, Int.toNat_natCast, hK]
      have hs0 : (none : Option Nat).isSome = false := rfl
      simp only [↓vsd, vsn, gW, qd, qv, ev, pick, argE, zipE, ne_eq, eq_self, forall_const, implies_true, if_true, if_false, reduceIte, reduceCtorEq, Nat.reduceEqDiff, Nat.reduceAdd, Nat.reduceLT, ↓us_sRepairTouch, r_sRepairTouch, hs0]
      exact ⟨hx14, hv.symm⟩
    | some K =>
      rw [hK] at hN
      have hv : rtV nm n cs b s f t = lstV (HC n cs b s) t K f := by unfold rtV; rw [if_pos hR, Int.toNat_natCast, hK]
      have hlen := lays_len (hs3 (HC n cs b s)) f K
      have hK8 := (layGo_some hK).2.1
      have eI : ((K + 1 : Nat) : Int) - 1 = (K : Int) := by omega
      have hs0 : (some K).isSome = true := rfl
      simp only [↓vsd, vsn, gW, qd, qv, ev, pick, argE, zipE, ne_eq, eq_self, forall_const, implies_true, if_true, if_false, reduceIte, reduceCtorEq, Nat.reduceEqDiff, Nat.reduceAdd, Nat.reduceLT, ↓us_sRepairTouch, r_sRepairTouch, hs0, hN.sq.facts, hlen, eI, h14.facts, h24.facts, fMg, fQg]
      refine ⟨inR_i64 (by omega), m_call (sl15Least_ok nm n v cs b s t hR.2.1 K (by omega) f hf _ (by first | exact h.ext hx14 | exact h.ext (dr hx14))) ?_⟩
      rintro _ w5 hx5 rfl
      have hx5 : Ext w4 w5 := by first | exact hx5 | exact ud hx5 | exact ud (ud hx5)
      rw [hv]
      obtain ⟨a1, a2, ha⟩ : ∃ a1 a2, lstV (HC n cs b s) t K f = .tuple ⟨[a1, a2]⟩ := by unfold lstV; split <;> exact ⟨_, _, rfl⟩
      rw [ha]
      simp only [↓vsd, vsn, gW, qd, qv, ev, pick, argE, zipE, ne_eq, eq_self, forall_const, implies_true, if_true, if_false, reduceIte, reduceCtorEq, Nat.reduceEqDiff, Nat.reduceAdd, Nat.reduceLT, ↓us_sRepairTouch, r_sRepairTouch]
      exact hx14.trans hx5
  · have hd := decide_eq_false hR
    simp only [↓vsd, vsn, gW, qd, qv, ev, pick, argE, zipE, ne_eq, eq_self, forall_const, implies_true, if_true, if_false, reduceIte, reduceCtorEq, Nat.reduceEqDiff, Nat.reduceAdd, Nat.reduceLT, ↓us_sRepairTouch, r_sRepairTouch, hd]
    exact ⟨hx13, by unfold rtV; rw [if_neg hR]⟩
/-- A map, as an element of a slice. -/
def fMp (o : Option Nat) : List Value := [.map o]
theorem fMp_len (o : Option Nat) : (fMp o).length = 1 := rfl
theorem fMp_one : ∀ o, ∀ u ∈ fMp o, u.oneCell' = true := fun o u h => by simp only [fMp, List.mem_singleton] at h; subst h; rfl
theorem fMp_get (o : Option Nat) (u : Value) : (fMp o).getD 0 u = .map o := rfl
/-- The sets from number i on: in set j the rows from which there are K - j steps. -/
def GoodAt (H : UInt8 → Bs) (f t : Bs) (K i : Nat) (w : World) (ms : List (Option Nat)) : Prop := ∀ j, i ≤ j → j ≤ K → ∃ m L, ms.getD j none = some m ∧ SetAt w m L ∧ ∀ x, x ∈ L ↔ Good H f t j (K - j) x
theorem GoodAt.ext {H : UInt8 → Bs} {f t : Bs} {K i : Nat} {w w' : World} {ms : List (Option Nat)} (h : GoodAt H f t K i w ms) (hx : Ext w w') : GoodAt H f t K i w' ms := fun j h1 h2 => by
  obtain ⟨m, L, a, b, c⟩ := h j h1 h2
  exact ⟨m, L, a, b.ext hx, c⟩
theorem GoodAt.same {H : UInt8 → Bs} {f t : Bs} {K i : Nat} {w w' : World} {ms : List (Option Nat)} (h : GoodAt H f t K i w ms) {r : Option Nat} (hg : w.grownBy w' r) (hr : ∀ m L, SetAt w m L → r ≠ some m ∨ (∀ j, i ≤ j → ms.getD j none ≠ some m)) : GoodAt H f t K i w' ms := fun j h1 h2 => by
  obtain ⟨m, L, a, b, c⟩ := h j h1 h2
  refine ⟨m, L, a, b.grown hg ?_, c⟩
  rcases hr m L b with h | h
  · exact h
  · exact absurd a (h j h1)
theorem iRepairTouch_ok (nm : List UInt8) (st : Int) (v : Value) (cs : List (List UInt8)) (b s f t : List UInt8) (hnm : nm.length ≤ 1048576) (hs : ∀ c ∈ cs, c.length ≤ 1048576) (hl : cs.length ≤ 1000000000) (hb : b.length ≤ 1048576 ∧ s.length ≤ 1048576) (w : World) (h : Sq fS 1 w v cs) : Fn 26 [mV nm st v, kV b s, S f, S t] w (fun r _ => r = rtV nm st cs b s f t) := by
  (refine callsV_of mix Try.func26 c_iRepairTouch ?_; simp only [↓vsd, vsn, gW, qd, qv, ev, pick, argE, zipE, ne_eq, eq_self, forall_const, implies_true, if_true, if_false, reduceIte, reduceCtorEq, Nat.reduceEqDiff, Nat.reduceAdd, Nat.reduceLT, ↓us_iRepairTouch, r_iRepairTouch])
  refine m_al ?_
  rintro b1 w1 hb1 hblk1 hx1 hs1
  have h1 : Blk w1 b1 (fM nm st v) 31 := hblk1
  simp only [↓vsd, vsn, gW, qd, qv, ev, pick, argE, zipE, ne_eq, eq_self, forall_const, implies_true, if_true, if_false, reduceIte, reduceCtorEq, Nat.reduceEqDiff, Nat.reduceAdd, Nat.reduceLT, ↓us_iRepairTouch, r_iRepairTouch, h1.facts, fMg]
  refine m_al ?_
  rintro b2 w2 hb2 hblk2 hx2 hs2
  have h2 : Blk w2 b2 (fQ b s) 33 := hblk2
  have h12 := h1.ext hx2
  have hx12 := hx1.trans hx2
  simp only [↓vsd, vsn, gW, qd, qv, ev, pick, argE, zipE, ne_eq, eq_self, forall_const, implies_true, if_true, if_false, reduceIte, reduceCtorEq, Nat.reduceEqDiff, Nat.reduceAdd, Nat.reduceLT, ↓us_iRepairTouch, r_iRepairTouch, h12.facts, h2.facts, fMg, fQg]
  refine m_call (igoodRepair_ok nm st v cs b s f t hnm hs hl hb _ (by first | exact h.ext hx12 | exact h.ext (dr hx12))) ?_
  rintro _ w3 hx3 rfl
  have hx3 : Ext w2 w3 := by first | exact hx3 | exact ud hx3 | exact ud (ud hx3)
  have hx13 := hx12.trans hx3
  have h13 := h12.ext hx3
  have h23 := h2.ext hx3
  by_cases hR : RepOk nm st cs b s f t
  · obtain ⟨n, rfl⟩ : ∃ n : Nat, st = n := ⟨st.toNat, by have := hR.2.1.1.2.1; omega⟩
    have hf : IsRow f ∧ f.length = n := ⟨hR.2.2.1.1, by have := hR.2.2.1.2; omega⟩
    have hM := hR.2.1
    have hd := decide_eq_true hR
    simp only [↓vsd, vsn, gW, qd, qv, ev, pick, argE, zipE, ne_eq, eq_self, forall_const, implies_true, if_true, if_false, reduceIte, reduceCtorEq, Nat.reduceEqDiff, Nat.reduceAdd, Nat.reduceLT, ↓us_iRepairTouch, r_iRepairTouch, hd, h13.facts, h23.facts, fMg, fQg]
    refine m_call (irepairLayers_ok nm n v cs b s f t hM hf _ (by first | exact h.ext hx13 | exact h.ext (dr hx13))) ?_
    rintro _ w4 hx4 ⟨x, rfl, hN⟩
    have hx4 : Ext w3 w4 := by first | exact hx4 | exact ud hx4 | exact ud (ud hx4)
    have hx14 := hx13.trans hx4
    have h14 := h13.ext hx4
    have h24 := h23.ext hx4
    unfold laysV at hN
    cases hK : lastK (hs3 (HC n cs b s)) f t with
    | none =>
      have hv : rtV nm n cs b s f t = .tuple ⟨[S [], .bool false]⟩ := by unfold rtV; rw [if_pos hR, Int.toNat_natCast, hK]
      have hs0 : (none : Option Nat).isSome = false := rfl
      simp only [↓vsd, vsn, gW, qd, qv, ev, pick, argE, zipE, ne_eq, eq_self, forall_const, implies_true, if_true, if_false, reduceIte, reduceCtorEq, Nat.reduceEqDiff, Nat.reduceAdd, Nat.reduceLT, ↓us_iRepairTouch, r_iRepairTouch, hs0]
      exact ⟨hx14, hv.symm⟩
    | some K =>
      rw [hK] at hN
      have hF := first_of hR.2.2.2.2 hK
      have hv : rtV nm n cs b s f t = lstV (HC n cs b s) t K f := by unfold rtV; rw [if_pos hR, Int.toNat_natCast, hK]
      have hlen := lays_len (hs3 (HC n cs b s)) f K
      have hK8 := (layGo_some hK).2.1
      have hK0 := (layGo_some hK).1
      have hs0 : (some K).isSome = true := rfl
      simp only [↓vsd, vsn, gW, qd, qv, ev, pick, argE, zipE, ne_eq, eq_self, forall_const, implies_true, if_true, if_false, reduceIte, reduceCtorEq, Nat.reduceEqDiff, Nat.reduceAdd, Nat.reduceLT, ↓us_iRepairTouch, r_iRepairTouch, hs0, h14.facts, h24.facts, fMg, fQg]
      refine m_call (icallHeads_ok nm n v cs b s hM _ (by first | exact h.ext hx14 | exact h.ext (dr hx14))) ?_
      rintro hv5 w5 hx5 hoh
      have hx5 : Ext w4 w5 := by first | exact hx5 | exact ud hx5 | exact ud (ud hx5)
      have eh : headsC nm n cs b s = hs3 (HC n cs b s) := by rw [headsC, if_pos hM]; rfl
      rw [eh] at hoh
      have hN5 := hN.ext hx5
      simp only [↓vsd, vsn, gW, qd, qv, ev, pick, argE, zipE, ne_eq, eq_self, forall_const, implies_true, if_true, if_false, reduceIte, reduceCtorEq, Nat.reduceEqDiff, Nat.reduceAdd, Nat.reduceLT, ↓us_iRepairTouch, r_iRepairTouch, hN5.sq.facts, hlen]
      refine m_msl (none : Option Nat) fMp_len rfl (by omega) (by decide) (Nat.le_refl _) ?_
      rintro g6 w6 ho6 hb6 hx6
      have eI : ((K + 1 : Nat) : Int) - 1 = (K : Int) := by omega
      have hN6 := hN5.ext hx6
      simp only [↓vsd, vsn, gW, qd, qv, ev, pick, argE, zipE, ne_eq, eq_self, forall_const, implies_true, if_true, if_false, reduceIte, reduceCtorEq, Nat.reduceEqDiff, Nat.reduceAdd, Nat.reduceLT, ↓us_iRepairTouch, r_iRepairTouch, hN6.sq.facts, hlen, eI]
      refine ⟨inR_i64 (by omega), m_mkset ?_⟩
      rintro m7 w7 hm7b hm7 hx7 hs7
      simp only [↓vsd, vsn, gW, qd, qv, ev, pick, argE, zipE, ne_eq, eq_self, forall_const, implies_true, if_true, if_false, reduceIte, reduceCtorEq, Nat.reduceEqDiff, Nat.reduceAdd, Nat.reduceLT, ↓us_iRepairTouch, r_iRepairTouch]
      refine m_put hm7 ?_
      rintro w8 hm8 hu8
      have ho8 := (ho6.ext hx7).upd hu8 (hm7.apart (ho6.ext hx7))
      have hx58 : Ext w5 w8 := hu8.below (hx6.trans hx7) (by have := hx6.size; omega)
      have hrl : (List.replicate (K + 1) (none : Option Nat)).length = K + 1 := by simp
      simp only [↓vsd, vsn, gW, qd, qv, ev, pick, argE, zipE, ne_eq, eq_self, forall_const, implies_true, if_true, if_false, reduceIte, reduceCtorEq, Nat.reduceEqDiff, Nat.reduceAdd, Nat.reduceLT, ↓us_iRepairTouch, r_iRepairTouch, ho8.sq.facts, hrl]
      refine ⟨by omega, m_set1 K (some m7) ho8 rfl (by omega) rfl fMp_one ?_⟩
      rintro w9 ho9 hg9 _
      have hx59 : Ext w5 w9 := ho8.grown hx58 (Nat.le_refl _) hg9
      have hm9 := hm8.grown hg9 (hm8.apart ho8)
      have hG9 : GoodAt (HC n cs b s) f t K (K - 0) w9 ((List.replicate (K + 1) none).set K (some m7)) := fun j h1 h2 => by
        obtain rfl : j = K := by omega
        refine ⟨m7, _, by rw [getD_set, if_pos ⟨rfl, by omega⟩], hm9, fun y => ?_⟩
        rw [Nat.sub_self, hF.last, put1]
        simp
      have hN9 := hN5.ext hx59
      have eI2 : ((K + 1 : Nat) : Int) - 2 = (K : Int) - 1 - ((0 : Nat) : Int) := by omega
      simp only [↓vsd, vsn, gW, qd, qv, ev, pick, argE, zipE, ne_eq, eq_self, forall_const, implies_true, if_true, if_false, reduceIte, reduceCtorEq, Nat.reduceEqDiff, Nat.reduceAdd, Nat.reduceLT, ↓us_iRepairTouch, r_iRepairTouch, hN9.sq.facts, hlen, eI2]
      refine ⟨inR_i64 (by omega), ?_⟩
      refine m_upto K (fun k vs w' => vs = [.int .i64 ((K : Int) - 1 - k)] ∧ (∃ ms, Own fMp 1 97 w5.heap.size w' g6 ms ∧ ms.length = K + 1 ∧ GoodAt (HC n cs b s) f t K (K - k) w' ms) ∧ Ext w5 w') ⟨rfl, ⟨_, ho9, by simp, hG9⟩, hx59⟩ ?_
      rintro k vs wa hk ⟨rfl, ⟨ms, hoa, hml, hGa⟩, hxa⟩
      by_cases hlt : k < K
      · obtain ⟨i0, hi0⟩ : ∃ i0 : Nat, i0 + 1 + k = K := ⟨K - 1 - k, by omega⟩
        have eK : (K : Int) - 1 - k = (i0 : Int) := by omega
        have hge : 0 ≤ (i0 : Int) := by omega
        rw [eK]
        simp only [↓vsd, vsn, gW, qd, qv, ev, pick, argE, zipE, ne_eq, eq_self, forall_const, implies_true, if_true, if_false, reduceIte, reduceCtorEq, Nat.reduceEqDiff, Nat.reduceAdd, Nat.reduceLT, ↓us_iRepairTouch, r_iRepairTouch, hge]
        refine m_mkset ?_
        rintro m wb hmb hmB hxb hsb
        have hob := hoa.ext hxb
        simp only [↓vsd, vsn, gW, qd, qv, ev, pick, argE, zipE, ne_eq, eq_self, forall_const, implies_true, if_true, if_false, reduceIte, reduceCtorEq, Nat.reduceEqDiff, Nat.reduceAdd, Nat.reduceLT, ↓us_iRepairTouch, r_iRepairTouch, hob.sq.facts, hml]
        refine ⟨by omega, m_set1 i0 (some m) hob rfl (by omega) rfl fMp_one ?_⟩
        rintro wc hoc hgc _
        have hxc : Ext w5 wc := hob.grown (hxa.trans hxb) (Nat.le_refl _) hgc
        have hmc := hmB.grown hgc (hmB.apart hob)
        have hmnew : ∀ j, i0 + 1 ≤ j → j ≤ K → ∃ m' L', (ms.set i0 (some m)).getD j none = some m' ∧ m' ≠ m ∧ SetAt wc m' L' ∧ ∀ y, y ∈ L' ↔ Good (HC n cs b s) f t j (K - j) y := fun j h1 h2 => by
          obtain ⟨m', L', a1, a2, a3⟩ := hGa j (by omega) h2
          have hlt' := a2.lt
          exact ⟨m', L', by rw [getD_set, if_neg (by omega)]; exact a1, by omega, (a2.ext hxb).grown hgc ((a2.ext hxb).apart hob), a3⟩
        have hself : (ms.set i0 (some m)).getD i0 none = some m := by rw [getD_set, if_pos ⟨rfl, by omega⟩]
        have hml2 : (ms.set i0 (some m)).length = K + 1 := by rw [List.length_set, hml]
        have hNc := hN5.ext hxc
        have hohc := hoh.ext hxc
        have hmw5 : w5.heap.size ≤ m := by have := hxa.size; omega
        generalize ms.set i0 (some m) = ms2 at *
        have hil : i0 < (lays (hs3 (HC n cs b s)) f K).length := by omega
        obtain ⟨u, au, hu⟩ := hNc.sq.at hil
        rw [lays_get _ f K i0 (by omega)] at hu
        have hlr := layer_rows (hs3_rows hM) hf i0
        have hgood := fun r hr => hF.good (i := i0) (n := K - (i0 + 1)) (by omega) (r := r) hr
        have hlb : (layer (hs3 (HC n cs b s)) f i0).length ≤ 1000000 := by
          have h5 := (layGo_some hK).2.2.2.2 i0 (by omega) (by omega)
          have h6 := layer_le (hs3 (HC n cs b s)) f i0
          omega
        have hhs3 : (hs3 (HC n cs b s)).length = 3 := rfl
        generalize hLL : layer (hs3 (HC n cs b s)) f i0 = L at *
        have hhr := hs3_rows hM
        simp only [↓vsd, vsn, gW, qd, qv, ev, pick, argE, zipE, ne_eq, eq_self, forall_const, implies_true, if_true, if_false, reduceIte, reduceCtorEq, Nat.reduceEqDiff, Nat.reduceAdd, Nat.reduceLT, ↓us_iRepairTouch, r_iRepairTouch, hNc.sq.facts, hlen, au, hu.facts]
        refine ⟨by omega, ?_⟩
        refine m_upto L.length (fun a vs w' => vs = [.int .i64 a] ∧ (∃ S', SetAt w' m S' ∧ ∀ y, y ∈ S' ↔ y ∈ L.take a ∧ Good (HC n cs b s) f t i0 (K - i0) y) ∧ wc.grownBy w' (some m)) ⟨rfl, ⟨[], hmc, fun y => by simp⟩, grown_refl _ _⟩ ?_
        rintro a vs wd ha ⟨rfl, ⟨Sd, hmd, hSd⟩, hgd⟩
        have hud : Sq fS 1 wd u L := hu.grow hgd hmc
        by_cases hlta : a < L.length
        · have haI : (a : Int) < L.length := by omega
          have haJ : ¬ (L.length : Int) ≤ a := by omega
          have aud := hud.at1 [] hlta
          have hra := hlr _ (getD_mem [] hlta)
          have hrg := hgood _ (getD_mem [] hlta)
          have hmemt : ∀ y, y ∈ L.take (a + 1) ↔ y ∈ L.take a ∨ y = L.getD a [] := fun y => by
            rw [List.take_add_one, List.getElem?_eq_getElem hlta, List.getD_eq_getElem?_getD, List.getElem?_eq_getElem hlta, List.mem_append]
            simp
          have hohd : Sq fS 1 wd hv5 (hs3 (HC n cs b s)) := hohc.sq.grow hgd hmc
          generalize L.getD a [] = r at *
          simp only [↓vsd, vsn, gW, qd, qv, ev, pick, argE, zipE, ne_eq, eq_self, forall_const, implies_true, if_true, if_false, reduceIte, reduceCtorEq, Nat.reduceEqDiff, Nat.reduceAdd, Nat.reduceLT, ↓us_iRepairTouch, r_iRepairTouch, haI, haJ, hud.facts, aud, hohd.facts, hhs3]
          refine ⟨by omega, ?_⟩
          refine m_upto 3 (fun q vs w' => vs = [.int .i64 q] ∧ (∃ S', SetAt w' m S' ∧ ∀ y, y ∈ S' ↔ (y ∈ L.take a ∧ Good (HC n cs b s) f t i0 (K - i0) y) ∨ (y = r ∧ ∃ h ∈ (hs3 (HC n cs b s)).take q, Good (HC n cs b s) f t (i0 + 1) (K - (i0 + 1)) (timesL r h))) ∧ wc.grownBy w' (some m)) ⟨rfl, ⟨Sd, hmd, fun y => by rw [hSd]; simp⟩, hgd⟩ ?_
          rintro q vs we hq ⟨rfl, ⟨Se, hme, hSe⟩, hge2⟩
          have hohe : Sq fS 1 we hv5 (hs3 (HC n cs b s)) := hohc.sq.grow hge2 hmc
          have hoe := hoc.off hge2 (fun c hc => by rw [← Option.some.inj hc]; exact hmc.apart hoc)
          by_cases hltq : q < 3
          · have hqI : (q : Int) < ((3 : Nat) : Int) := by omega
            have hqJ : ¬ ((3 : Nat) : Int) ≤ q := by omega
            have ae := hohe.at1 [] (i := q) (by omega)
            have hh := hhr _ (getD_mem [] (show q < (hs3 (HC n cs b s)).length by omega))
            have htk : ∀ y, y ∈ (hs3 (HC n cs b s)).take (q + 1) ↔ y ∈ (hs3 (HC n cs b s)).take q ∨ y = (hs3 (HC n cs b s)).getD q [] := fun y => by
              rw [List.take_add_one, List.getElem?_eq_getElem (by omega), List.getD_eq_getElem?_getD, List.getElem?_eq_getElem (by omega), List.mem_append]
              simp
            generalize (hs3 (HC n cs b s)).getD q [] = g at *
            obtain ⟨m', L', b1', b2', b3', b4'⟩ := hmnew (i0 + 1) (Nat.le_refl _) (by omega)
            have hm'e := b3'.grown hge2 (fun e => b2' (Option.some.inj e).symm)
            have e1 := hoe.sq.at1 none (i := i0 + 1) (by omega)
            rw [b1'] at e1
            have eI3 : (i0 : Int) + 1 = ((i0 + 1 : Nat) : Int) := by omega
            have hxd : Ext we we.drew := dr (Ext.refl _)
            have oed := hoe.sq.ext hxd
            have e1d := oed.at1 none (i := i0 + 1) (by omega)
            rw [b1'] at e1d
            simp only [↓vsd, vsn, gW, qd, qv, ev, pick, argE, zipE, ne_eq, eq_self, forall_const, implies_true, if_true, if_false, reduceIte, reduceCtorEq, Nat.reduceEqDiff, Nat.reduceAdd, Nat.reduceLT, ↓us_iRepairTouch, r_iRepairTouch, hqI, hqJ, hohe.facts, hhs3, ae, eI3, oed.facts, e1d, fMp_get, hml2]
            refine ⟨by omega, inR_i64 (by omega), by omega, ?_⟩
            refine m_call (itimes_ok r g hh.1 (by rw [hra.2, hh.2]) _) ?_
            rintro _ wf hxf rfl
            have hxf : Ext we wf := by first | exact hxf | exact ud hxf | exact ud (ud hxf)
            have hmf := hme.ext hxf
            have hof := hoe.ext hxf
            have hgf := grown_trans hge2 (grown_ext (some m) hxf)
            have hlk := (hm'e.ext hxd).look (timesL r g)
            have hin := b4' (timesL r g)
            by_cases hG : timesL r g ∈ L'
            · have e0 := hof.sq.at1 none (i := i0) (by omega)
              rw [hself] at e0
              simp only [↓vsd, vsn, gW, qd, qv, ev, pick, argE, zipE, ne_eq, eq_self, forall_const, implies_true, if_true, if_false, reduceIte, reduceCtorEq, Nat.reduceEqDiff, Nat.reduceAdd, Nat.reduceLT, ↓us_iRepairTouch, r_iRepairTouch, hlk, hG, hof.sq.facts, e0, fMp_get, hml2]
              refine ⟨by omega, m_put hmf ?_⟩
              rintro wg hmg hug
              simp only [↓vsd, vsn, gW, qd, qv, ev, pick, argE, zipE, ne_eq, eq_self, forall_const, implies_true, if_true, if_false, reduceIte, reduceCtorEq, Nat.reduceEqDiff, Nat.reduceAdd, Nat.reduceLT, ↓us_iRepairTouch, r_iRepairTouch]
              refine ⟨inR_i64 (by omega), UpTo.next hltq ⟨by simp, ⟨_, hmg, fun y => ?_⟩, grown_trans hgf hug.grown⟩⟩
              rw [put1_mem, hSe]
              constructor
              · rintro ((h1 | ⟨h1, x1, h2, h3⟩) | h1)
                · exact .inl h1
                · exact .inr ⟨h1, x1, (htk x1).2 (.inl h2), h3⟩
                · exact .inr ⟨h1, g, (htk g).2 (.inr rfl), hin.1 hG⟩
              · rintro (h1 | ⟨h1, x1, h2, h3⟩)
                · exact .inl (.inl h1)
                · rcases (htk x1).1 h2 with h4 | h4
                  · exact .inl (.inr ⟨h1, x1, h4, h3⟩)
                  · exact .inr h1
            · simp only [↓vsd, vsn, gW, qd, qv, ev, pick, argE, zipE, ne_eq, eq_self, forall_const, implies_true, if_true, if_false, reduceIte, reduceCtorEq, Nat.reduceEqDiff, Nat.reduceAdd, Nat.reduceLT, ↓us_iRepairTouch, r_iRepairTouch, hlk, hG]
              refine ⟨inR_i64 (by omega), UpTo.next hltq ⟨by simp, ⟨_, hmf, fun y => ?_⟩, hgf⟩⟩
              rw [hSe]
              constructor
              · rintro (h1 | ⟨h1, x1, h2, h3⟩)
                · exact .inl h1
                · exact .inr ⟨h1, x1, (htk x1).2 (.inl h2), h3⟩
              · rintro (h1 | ⟨h1, x1, h2, h3⟩)
                · exact .inl h1
                · rcases (htk x1).1 h2 with h4 | h4
                  · exact .inr ⟨h1, x1, h4, h3⟩
                  · subst h4; exact absurd (hin.2 h3) hG
          · obtain rfl : q = 3 := by omega
            have hqI : ¬ ((3 : Nat) : Int) < ((3 : Nat) : Int) := by omega
            have e3 : (hs3 (HC n cs b s)).take 3 = hs3 (HC n cs b s) := rfl
            simp only [↓vsd, vsn, gW, qd, qv, ev, pick, argE, zipE, ne_eq, eq_self, forall_const, implies_true, if_true, if_false, reduceIte, reduceCtorEq, Nat.reduceEqDiff, Nat.reduceAdd, Nat.reduceLT, ↓us_iRepairTouch, r_iRepairTouch, hqI]
            refine ⟨inR_i64 (by omega), UpTo.next hlta ⟨by simp, ⟨_, hme, fun y => ?_⟩, hge2⟩⟩
            rw [hSe, e3, ← hrg, hmemt, show K - (i0 + 1) + 1 = K - i0 by omega]
            constructor
            · rintro (⟨h1, h2⟩ | ⟨h1, h2⟩)
              · exact ⟨.inl h1, h2⟩
              · exact ⟨.inr h1, h1 ▸ h2⟩
            · rintro ⟨h1 | h1, h2⟩
              · exact .inl ⟨h1, h2⟩
              · exact .inr ⟨h1, h1 ▸ h2⟩
        · obtain rfl : a = L.length := by omega
          have haI : ¬ (L.length : Int) < L.length := by omega
          rw [List.take_length] at hSd
          simp only [↓vsd, vsn, gW, qd, qv, ev, pick, argE, zipE, ne_eq, eq_self, forall_const, implies_true, if_true, if_false, reduceIte, reduceCtorEq, Nat.reduceEqDiff, Nat.reduceAdd, Nat.reduceLT, ↓us_iRepairTouch, r_iRepairTouch, haI]
          have hod := hoc.off hgd (fun c hc => by rw [← Option.some.inj hc]; exact hmc.apart hoc)
          refine ⟨inR_i64 (by omega), UpTo.next hlt ⟨by simp; omega, ⟨ms2, hod, hml2, fun j h1 h2 => ?_⟩, ext_grow hxc hgd (fun c hc => by rw [← Option.some.inj hc]; exact hmw5)⟩⟩
          by_cases hj : j = i0
          · subst hj
            refine ⟨m, Sd, hself, hmd, fun y => ?_⟩
            rw [hSd]
            exact ⟨fun hh => hh.2, fun hh => ⟨hLL ▸ hh.1, hh⟩⟩
          · obtain ⟨m', L', c1, c2, c3, c4⟩ := hmnew j (by omega) h2
            exact ⟨m', L', c1, c3.grown hgd (fun e => c2 (Option.some.inj e).symm), c4⟩
      · obtain rfl : K = k := by omega
        have hge : ¬ 0 ≤ (K : Int) - 1 - K := by omega
        rw [Nat.sub_self] at hGa
        simp only [↓vsd, vsn, gW, qd, qv, ev, pick, argE, zipE, ne_eq, eq_self, forall_const, implies_true, if_true, if_false, reduceIte, reduceCtorEq, Nat.reduceEqDiff, Nat.reduceAdd, Nat.reduceLT, ↓us_iRepairTouch, r_iRepairTouch, hge]
        have hNa := hN5.ext hxa
        obtain ⟨xs, hxs⟩ : ∃ xs, leastT (HC n cs b s) t K f = some xs := by
          cases hq : leastT (HC n cs b s) t K f with
          | none => exact absurd hq hF.start
          | some xs => exact ⟨xs, rfl⟩
        have hf0 : f ∈ layer (hs3 (HC n cs b s)) f 0 := by rw [layer_zero]; exact List.mem_singleton.2 rfl
        refine m_upto K (fun k vs w' => ∃ T r rest, vs = [S T, S r, .int .i64 ((k : Int) + 1)] ∧ T.length = k ∧ xs = T ++ rest ∧ leastT (HC n cs b s) t (K - k) r = some rest ∧ r ∈ layer (hs3 (HC n cs b s)) f k ∧ Ext wa w') ⟨[], f, xs, rfl, rfl, rfl, hxs, hf0, Ext.refl _⟩ ?_
        rintro k vs wb hk2 ⟨T, r, rest, rfl, hTl, hxe, hrest, hrl2, hxb⟩
        have hNb := hNa.ext hxb
        by_cases hlt2 : k < K
        · have hkI : (k : Int) + 1 < ((K + 1 : Nat) : Int) := by omega
          have hrr := layer_rows (hs3_rows hM) hf k r hrl2
          simp only [↓vsd, vsn, gW, qd, qv, ev, pick, argE, zipE, ne_eq, eq_self, forall_const, implies_true, if_true, if_false, reduceIte, reduceCtorEq, Nat.reduceEqDiff, Nat.reduceAdd, Nat.reduceLT, ↓us_iRepairTouch, r_iRepairTouch, hNb.sq.facts, hlen, hkI]
          refine m_bsl (by simp; exact ⟨rfl, rfl, rfl⟩) ?_
          rintro bk wc hbk hblkc hxc hsc
          have hKb : Own fS 1 9 wb.heap.size wc (.slice (some ⟨bk, 0, none⟩) 3 3) bps := Own.lits (ls := bps) hblkc rfl (by omega) (by simp [bps])
          simp only [↓vsd, vsn, gW, qd, qv, ev, pick, argE, zipE, ne_eq, eq_self, forall_const, implies_true, if_true, if_false, reduceIte, reduceCtorEq, Nat.reduceEqDiff, Nat.reduceAdd, Nat.reduceLT, ↓us_iRepairTouch, r_iRepairTouch]
          generalize Value.slice (some ⟨bk, 0, none⟩) 3 3 = kv at *
          have hB3 : bps.length = 3 := rfl
          refine m_upto 3 (fun q vs w' => vs = [S T, S r, .int .i64 q] ∧ NoneUp (HC n cs b s) t (K - (k + 1)) r q ∧ Ext wc w') ⟨rfl, fun p hp => by omega, Ext.refl _⟩ ?_
          rintro q vs wd hq ⟨rfl, hno, hxd⟩
          have hKd := hKb.sq.ext hxd
          have hxad := (hxb.trans hxc).trans hxd
          have hxw := (((hx14.trans hx5).trans hxa).trans hxad)
          have h1d := h14.ext (((hx5.trans hxa).trans hxad))
          have h2d := h24.ext (((hx5.trans hxa).trans hxad))
          by_cases hltq : q < 3
          · have hqI : (q : Int) < ((3 : Nat) : Int) := by omega
            have hqJ : ¬ ((3 : Nat) : Int) ≤ q := by omega
            obtain ⟨c, hc⟩ := bps_at hltq
            have a5 := hKd.at1 [] (i := q) (by omega)
            rw [hc] at a5
            have hcb := HC_row hM c
            have hcm : HC n cs b s c ∈ hs3 (HC n cs b s) := by
              match q, hltq with
              | 0, _ => obtain rfl : 98 = c := by simpa [bps] using hc
                        simp [hs3]
              | 1, _ => obtain rfl : 112 = c := by simpa [bps] using hc
                        simp [hs3]
              | 2, _ => obtain rfl : 115 = c := by simpa [bps] using hc
                        simp [hs3]
            simp only [↓vsd, vsn, gW, qd, qv, ev, pick, argE, zipE, ne_eq, eq_self, forall_const, implies_true, if_true, if_false, reduceIte, reduceCtorEq, Nat.reduceEqDiff, Nat.reduceAdd, Nat.reduceLT, ↓us_iRepairTouch, r_iRepairTouch, hqI, hqJ, hKd.facts, hB3, a5, h1d.facts, h2d.facts, fMg, fQg]
            refine ⟨by omega, ?_⟩
            refine m_call (icallHead_ok nm n v cs b s [c] hM _ (by first | exact h.ext hxw | exact h.ext (dr hxw))) ?_
            rintro _ we hxe2 rfl
            have hxe2 : Ext wd we := by first | exact hxe2 | exact ud hxe2 | exact ud (ud hxe2)
            have eH : headC n cs b s [c] = HC n cs b s c := rfl
            simp only [↓vsd, vsn, gW, qd, qv, ev, pick, argE, zipE, ne_eq, eq_self, forall_const, implies_true, if_true, if_false, reduceIte, reduceCtorEq, Nat.reduceEqDiff, Nat.reduceAdd, Nat.reduceLT, ↓us_iRepairTouch, r_iRepairTouch, eH]
            refine m_call (itimes_ok r _ hcb.1 (by rw [hrr.2, hcb.2]) _) ?_
            rintro _ wf hxf rfl
            have hxf : Ext we wf := by first | exact hxf | exact ud hxf | exact ud (ud hxf)
            have hxaf := (hxad.trans hxe2).trans hxf
            have hof := hoa.ext hxaf
            obtain ⟨m', L', d1, d2, d3⟩ := (hGa.ext hxaf) (k + 1) (by omega) (by omega)
            have e0 := hof.sq.at1 none (i := k + 1) (by omega)
            rw [d1] at e0
            have eI5 : (k : Int) + 1 = ((k + 1 : Nat) : Int) := by omega
            have hlk := d2.look (timesL r (HC n cs b s c))
            have hin := d3 (timesL r (HC n cs b s c))
            simp only [↓vsd, vsn, gW, qd, qv, ev, pick, argE, zipE, ne_eq, eq_self, forall_const, implies_true, if_true, if_false, reduceIte, reduceCtorEq, Nat.reduceEqDiff, Nat.reduceAdd, Nat.reduceLT, ↓us_iRepairTouch, r_iRepairTouch, eI5, hof.sq.facts, hml, e0, fMp_get, hlk]
            have hKk : K - k = (K - (k + 1)) + 1 := by omega
            refine ⟨by omega, fun hmem => ?_, fun hmem => ?_⟩
            · have hG := hin.1 hmem
              obtain ⟨y, hy⟩ : ∃ y, leastT (HC n cs b s) t (K - (k + 1)) (timesL r (HC n cs b s c)) = some y := by
                cases hq2 : leastT (HC n cs b s) t (K - (k + 1)) (timesL r (HC n cs b s c)) with
                | none => exact absurd hq2 hG.2
                | some y => exact ⟨y, rfl⟩
              have hst := leastT_at hltq hc hno hy
              rw [← hKk, hrest] at hst
              have hre := Option.some.inj hst
              exact ⟨by omega, inR_i64 (by omega), UpTo.next hlt2 ⟨T ++ [c], _, y, by simp, by simp [hTl], by rw [hxe, hre]; simp, hy, hG.1, hxaf⟩⟩
            · refine ⟨inR_i64 (by omega), UpTo.next hltq ⟨by simp, fun p hp c2 hc2 => ?_, (hxd.trans hxe2).trans hxf⟩⟩
              by_cases hpq : p = q
              · subst hpq
                rw [hc] at hc2
                obtain rfl : c = c2 := by simpa using hc2
                cases hq2 : leastT (HC n cs b s) t (K - (k + 1)) (timesL r (HC n cs b s c)) with
                | none => rfl
                | some y =>
                  have hRc : Rch (HC n cs b s) t (K - (k + 1)) (timesL r (HC n cs b s c)) := by unfold Rch; rw [hq2]; exact Option.some_ne_none y
                  exact absurd (hin.2 ⟨hF.step (by omega) hrl2 hcm hRc, hRc⟩) hmem
              · exact hno p (by omega) c2 hc2
          · obtain rfl : q = 3 := by omega
            have hend := leastT_end hno
            rw [show K - (k + 1) + 1 = K - k by omega, hrest] at hend
            cases hend
        · obtain rfl : K = k := by omega
          have hkI : ¬ (K : Int) + 1 < ((K + 1 : Nat) : Int) := by omega
          rw [Nat.sub_self, leastT] at hrest
          have hr0 : rest = [] := by
            split at hrest
            · exact (Option.some.inj hrest).symm
            · cases hrest
          have hxT : xs = T := by rw [hxe, hr0, List.append_nil]
          simp only [↓vsd, vsn, gW, qd, qv, ev, pick, argE, zipE, ne_eq, eq_self, forall_const, implies_true, if_true, if_false, reduceIte, reduceCtorEq, Nat.reduceEqDiff, Nat.reduceAdd, Nat.reduceLT, ↓us_iRepairTouch, r_iRepairTouch, hNb.sq.facts, hlen, hkI]
          exact ⟨((hx14.trans hx5).trans hxa).trans hxb, by rw [hv]; unfold lstV; rw [hxs, hxT]⟩
  · have hd := decide_eq_false hR
    simp only [↓vsd, vsn, gW, qd, qv, ev, pick, argE, zipE, ne_eq, eq_self, forall_const, implies_true, if_true, if_false, reduceIte, reduceCtorEq, Nat.reduceEqDiff, Nat.reduceAdd, Nat.reduceLT, ↓us_iRepairTouch, r_iRepairTouch, hd]
    exact ⟨hx13, by unfold rtV; rw [if_neg hR]⟩
theorem rtV_pair (nm : List UInt8) (st : Int) (cs : List (List UInt8)) (b s f t : List UInt8) : ∃ g ok, rtV nm st cs b s f t = .tuple ⟨[S g, .bool ok]⟩ := by
  unfold rtV
  split
  · split
    · unfold lstV
      split <;> exact ⟨_, _, rfl⟩
    · exact ⟨_, _, rfl⟩
  · exact ⟨_, _, rfl⟩
theorem lFnExactRepairTouch_ok (nm : List UInt8) (st : Int) (v : Value) (cs : List (List UInt8)) (b s f t : List UInt8) (hnm : nm.length ≤ 9223372036854775807) (hl : cs.length ≤ 9223372036854775807) (hs : ∀ x ∈ cs, x.length ≤ 9223372036854775807) (hb : b.length ≤ 9223372036854775807 ∧ s.length ≤ 9223372036854775807) (w : World) (h : Sq fS 1 w v cs) : Fn 5 [mV nm st v, kV b s, S f, S t] w (fun r _ => r = .bool true) := by
  (refine callsV_of mix Try.func5 c_lFnExactRepairTouch ?_; simp only [↓vsd, vsn, gW, qd, qv, ev, pick, argE, zipE, ne_eq, eq_self, forall_const, implies_true, if_true, if_false, reduceIte, reduceCtorEq, Nat.reduceEqDiff, Nat.reduceAdd, Nat.reduceLT, ↓us_lFnExactRepairTouch, r_lFnExactRepairTouch])
  refine m_al ?_
  rintro b1 w1 hb1 hblk1 hx1 hs1
  have h1 : Blk w1 b1 (fM nm st v) 24 := hblk1
  simp only [↓vsd, vsn, gW, qd, qv, ev, pick, argE, zipE, ne_eq, eq_self, forall_const, implies_true, if_true, if_false, reduceIte, reduceCtorEq, Nat.reduceEqDiff, Nat.reduceAdd, Nat.reduceLT, ↓us_lFnExactRepairTouch, r_lFnExactRepairTouch, h1.facts, fMg]
  refine m_al ?_
  rintro b2 w2 hb2 hblk2 hx2 hs2
  have h2 : Blk w2 b2 (fQ b s) 26 := hblk2
  have h12 := h1.ext hx2
  have hx12 := hx1.trans hx2
  simp only [↓vsd, vsn, gW, qd, qv, ev, pick, argE, zipE, ne_eq, eq_self, forall_const, implies_true, if_true, if_false, reduceIte, reduceCtorEq, Nat.reduceEqDiff, Nat.reduceAdd, Nat.reduceLT, ↓us_lFnExactRepairTouch, r_lFnExactRepairTouch, h12.facts, h2.facts, fMg, fQg]
  refine ⟨fun _ => hx12, fun hcf => ⟨fun _ => hx12, fun hct => ?_⟩⟩
  refine m_call (lszMethod_ok nm st v cs 1048576 (by decide) hnm hl hs _ (h.ext hx12)) ?_
  rintro _ w3 hx3 ⟨m, rfl, hm1, hm⟩
  have hx13 := hx12.trans hx3
  have h13 := h12.ext hx3
  have h23 := h2.ext hx3
  simp only [↓vsd, vsn, gW, qd, qv, ev, pick, argE, zipE, ne_eq, eq_self, forall_const, implies_true, if_true, if_false, reduceIte, reduceCtorEq, Nat.reduceEqDiff, Nat.reduceAdd, Nat.reduceLT, ↓us_lFnExactRepairTouch, r_lFnExactRepairTouch, h13.facts, h23.facts, fMg, fQg]
  refine ⟨fun _ => hx13, fun h0 => ?_⟩
  obtain ⟨hnm, hl, hs⟩ := hm h0
  refine m_call (lszCalls_ok b s m ⟨hm1, h0⟩ hb _) ?_
  rintro _ w4 hx4 ⟨m2, rfl, hm21, hm2⟩
  have hx14 := hx13.trans hx4
  have h14 := h13.ext hx4
  have h24 := h23.ext hx4
  simp only [↓vsd, vsn, gW, qd, qv, ev, pick, argE, zipE, ne_eq, eq_self, forall_const, implies_true, if_true, if_false, reduceIte, reduceCtorEq, Nat.reduceEqDiff, Nat.reduceAdd, Nat.reduceLT, ↓us_lFnExactRepairTouch, r_lFnExactRepairTouch, h14.facts, h24.facts, fMg, fQg]
  refine ⟨fun _ => hx14, fun h02 => ?_⟩
  have hb := hm2 h02
  refine m_call (ltoMethod_ok nm st v cs hl _ (by first | exact h.ext hx14 | exact h.ext (dr hx14))) ?_
  rintro _ w5 hx5 ⟨x5, rfl, ho5⟩
  have hx5 : Ext w4 w5 := by first | exact hx5 | exact ud hx5 | exact ud (ud hx5)
  have h25 := h24.ext hx5
  have hx15 := hx14.trans hx5
  simp only [↓vsd, vsn, gW, qd, qv, ev, pick, argE, zipE, ne_eq, eq_self, forall_const, implies_true, if_true, if_false, reduceIte, reduceCtorEq, Nat.reduceEqDiff, Nat.reduceAdd, Nat.reduceLT, ↓us_lFnExactRepairTouch, r_lFnExactRepairTouch, h25.facts, fQg]
  refine m_call (ltoCalls_ok b s _) ?_
  rintro _ w6 hx6 rfl
  have hx6 : Ext w5 w6 := by first | exact hx6 | exact ud hx6 | exact ud (ud hx6)
  have hx16 := hx15.trans hx6
  simp only [↓vsd, vsn, gW, qd, qv, ev, pick, argE, zipE, ne_eq, eq_self, forall_const, implies_true, if_true, if_false, reduceIte, reduceCtorEq, Nat.reduceEqDiff, Nat.reduceAdd, Nat.reduceLT, ↓us_lFnExactRepairTouch, r_lFnExactRepairTouch]
  refine m_call (sRepairTouch_ok nm st x5 cs b s f t hnm hs (by omega) hb _ (ho5.ext hx6).sq) ?_
  rintro _ w7 hx7 rfl
  have hx7 : Ext w6 w7 := by first | exact hx7 | exact ud hx7 | exact ud (ud hx7)
  obtain ⟨g, ok, hR⟩ := rtV_pair nm st cs b s f t
  rw [hR]
  simp only [↓vsd, vsn, gW, qd, qv, ev, pick, argE, zipE, ne_eq, eq_self, forall_const, implies_true, if_true, if_false, reduceIte, reduceCtorEq, Nat.reduceEqDiff, Nat.reduceAdd, Nat.reduceLT, ↓us_lFnExactRepairTouch, r_lFnExactRepairTouch]
  have hx17 := hx16.trans hx7
  have h17 := h14.ext ((hx5.trans hx6).trans hx7)
  have h27 := h25.ext (hx6.trans hx7)
  simp only [↓vsd, vsn, gW, qd, qv, ev, pick, argE, zipE, ne_eq, eq_self, forall_const, implies_true, if_true, if_false, reduceIte, reduceCtorEq, Nat.reduceEqDiff, Nat.reduceAdd, Nat.reduceLT, ↓us_lFnExactRepairTouch, r_lFnExactRepairTouch, h17.facts, h27.facts, fMg, fQg]
  refine m_call (ltoMethod_ok nm st v cs hl _ (by first | exact h.ext hx17 | exact h.ext (dr hx17))) ?_
  rintro _ w8 hx8 ⟨x8, rfl, ho8⟩
  have hx8 : Ext w7 w8 := by first | exact hx8 | exact ud hx8 | exact ud (ud hx8)
  simp only [↓vsd, vsn, gW, qd, qv, ev, pick, argE, zipE, ne_eq, eq_self, forall_const, implies_true, if_true, if_false, reduceIte, reduceCtorEq, Nat.reduceEqDiff, Nat.reduceAdd, Nat.reduceLT, ↓us_lFnExactRepairTouch, r_lFnExactRepairTouch]
  have h18 := h17.ext hx8
  have h28 := h27.ext hx8
  have hx18 := hx17.trans hx8
  refine m_al ?_
  rintro b9 w9 hb9 hblk9 hx9 hs9
  have h19 := h18.ext hx9
  have h29 := h28.ext hx9
  simp only [↓vsd, vsn, gW, qd, qv, ev, pick, argE, zipE, ne_eq, eq_self, forall_const, implies_true, if_true, if_false, reduceIte, reduceCtorEq, Nat.reduceEqDiff, Nat.reduceAdd, Nat.reduceLT, ↓us_lFnExactRepairTouch, r_lFnExactRepairTouch, h19.facts, h29.facts, fMg, fQg]
  refine m_st hblk9 rfl (Nat.le_refl 3) (fM_one nm st x8 ho8.sq.one') ?_
  rintro w10 hblk10 hu10
  have hb10 : Blk w10 b9 (fM nm st x8) 31 := hblk10
  have hx19 := hx18.trans hx9
  have hx110 : Ext w w10 := hu10.below hx19 (by have := hx18.size; omega)
  have ho10 := (ho8.ext hx9).upd hu10 (ho8.away (by omega))
  have h110 := hu10.blk h19 (by have := h18.lt; omega)
  have h210 := hu10.blk h29 (by have := h28.lt; omega)
  simp only [↓vsd, vsn, gW, qd, qv, ev, pick, argE, zipE, ne_eq, eq_self, forall_const, implies_true, if_true, if_false, reduceIte, reduceCtorEq, Nat.reduceEqDiff, Nat.reduceAdd, Nat.reduceLT, ↓us_lFnExactRepairTouch, r_lFnExactRepairTouch, h110.facts, h210.facts, hb10.facts, fMg, fQg]
  refine m_call (ltoCalls_ok b s _) ?_
  rintro _ w11 hx11 rfl
  have hx11 : Ext w10 w11 := by first | exact hx11 | exact ud hx11 | exact ud (ud hx11)
  have h111 := h110.ext hx11
  have h211 := h210.ext hx11
  have hb11 := hb10.ext hx11
  have hx111 := hx110.trans hx11
  simp only [↓vsd, vsn, gW, qd, qv, ev, pick, argE, zipE, ne_eq, eq_self, forall_const, implies_true, if_true, if_false, reduceIte, reduceCtorEq, Nat.reduceEqDiff, Nat.reduceAdd, Nat.reduceLT, ↓us_lFnExactRepairTouch, r_lFnExactRepairTouch, h111.facts, h211.facts, hb11.facts, fMg, fQg]
  refine m_call (iRepairTouch_ok nm st x8 cs b s f t hnm hs (by omega) hb _ (ho10.ext hx11).sq) ?_
  rintro _ w12 hxn rfl
  have hxn : Ext w11 w12 := by first | exact hxn | exact ud hxn | exact ud (ud hxn)
  rw [hR]
  have hx112 := hx111.trans hxn
  have h112 := h111.ext hxn
  have hb12 := hb11.ext hxn
  have ho12 := (ho10.ext hx11).ext hxn
  simp only [↓vsd, vsn, gW, qd, qv, ev, pick, argE, zipE, ne_eq, eq_self, forall_const, implies_true, if_true, if_false, reduceIte, reduceCtorEq, Nat.reduceEqDiff, Nat.reduceAdd, Nat.reduceLT, ↓us_lFnExactRepairTouch, r_lFnExactRepairTouch, h112.facts, hb12.facts, fMg]
  refine m_call (ltoMethod_ok nm st v cs hl _ (by first | exact h.ext hx112 | exact h.ext (dr hx112))) ?_
  rintro _ w13 hxm ⟨x13, rfl, ho13⟩
  have hxm : Ext w12 w13 := by first | exact hxm | exact ud hxm | exact ud (ud hxm)
  have hb13 := hb12.ext hxm
  simp only [↓vsd, vsn, gW, qd, qv, ev, pick, argE, zipE, ne_eq, eq_self, forall_const, implies_true, if_true, if_false, reduceIte, reduceCtorEq, Nat.reduceEqDiff, Nat.reduceAdd, Nat.reduceLT, ↓us_lFnExactRepairTouch, r_lFnExactRepairTouch, hb13.facts, fMg]
  refine m_call (leqMethod_ok nm nm st st x8 x13 cs cs (by omega) _ (ho12.ext hxm).sq ho13.sq) ?_
  rintro _ w14 hxk rfl
  have hxk : Ext w13 w14 := by first | exact hxk | exact ud hxk | exact ud (ud hxk)
  simp only [↓vsd, vsn, gW, qd, qv, ev, pick, argE, zipE, ne_eq, eq_self, forall_const, implies_true, if_true, if_false, reduceIte, reduceCtorEq, Nat.reduceEqDiff, Nat.reduceAdd, Nat.reduceLT, ↓us_lFnExactRepairTouch, r_lFnExactRepairTouch]
  exact (hx112.trans hxm).trans hxk
end Go.Proofs.Ytnhealghpfjdcaa
