/-
  The drawing of methods.
  Conditions: none.
-/
import Derived.Test.YtfklonhjgkahdaaKA25
import Derived.Test.YtfklonhjgkahdaaKD10
set_option linter.unusedSimpArgs false
set_option linter.unusedVariables false
set_option linter.defProp false
namespace Go.Proofs.Ytfklonhjgkahdaa
open Go Go.RowKit
section
variable (P : Program) (k : KT) (e : Env) (w : World)
abbrev b100_1 : X := (.reg [0, 1, 5, 6] (.c (.q 6 [] (.mv (.s [49]))) .nil))
def t100_1 := b100_1
theorem u100_1 : vcK P t100_1 k e w = vcK P b100_1 k e w := rfl
abbrev b100_2 : X := (.cond (.t 14) (.seq (.reg [0, 1, 5] (.c (.q 15 [] (.mv (.t 0))) (.c (.e (some 16) [] (.call false 80 [(.t 15)])) (.c (.q 5 [] (.mv (.t 16))) .nil)))) t100_1) .skip)
def t100_2 := b100_2
theorem u100_2 : vcK P t100_2 k e w = vcK P b100_2 k e w := rfl
abbrev b100_3 : X := (.cond (.t 19) .skip (.exit 0))
def t100_3 := b100_3
theorem u100_3 : vcK P t100_3 k e w = vcK P b100_3 k e w := rfl
abbrev b100_4 : X := (.reg [0, 1, 5, 6, 7, 8] (.c (.q 20 [] (.mv (.t 8))) (.c (.q 21 [] (.bin .add (.t 20) (.c (.int .i64 1)))) (.c (.q 8 [] (.mv (.t 21))) .nil))))
def t100_4 := b100_4
theorem u100_4 : vcK P t100_4 k e w = vcK P b100_4 k e w := rfl
abbrev b100_5 : X := (.seq (.blk 1 (.reg [0, 1, 5, 6, 7, 8] (.c (.q 22 [] (.mv (.t 7))) (.c (.q 23 [] (.mv (.t 5))) (.c (.q 24 [] (.mv (.t 6))) (.c (.e (some 25) [] (.bsl 9 1 [(.t 23), (.t 24)])) (.c (.e (some 26) [] (.app 24 9 1 16 [(S [])] 24 (.t 22) (.t 25))) (.c (.q 7 [] (.mv (.t 26))) .nil)))))))) t100_4)
def t100_5 := b100_5
theorem u100_5 : vcK P t100_5 k e w = vcK P b100_5 k e w := rfl
abbrev b100_6 : X := (.seq (.seq (.reg [0, 1, 5, 6, 7, 8, 19] (.c (.q 17 [] (.mv (.t 8))) (.c (.q 18 [] (.mv (.t 0))) (.c (.q 19 [] (.bin .lss (.t 17) (.t 18))) .nil)))) t100_3) t100_5)
def t100_6 := b100_6
theorem u100_6 : vcK P t100_6 k e w = vcK P b100_6 k e w := rfl
abbrev b100_7 : X := (.blk 0 (.loop [7, 8] [0, 1, 5, 6] t100_6))
def t100_7 := b100_7
theorem u100_7 : vcK P t100_7 k e w = vcK P b100_7 k e w := rfl
abbrev b100_8 : X := (.seq (.reg [4] (.c (.q 33 [] (.mv (.t 7))) (.c (.q 4 [] (.mv (.t 33))) .nil))) .ret)
def t100_8 := b100_8
theorem u100_8 : vcK P t100_8 k e w = vcK P b100_8 k e w := rfl
abbrev b100_9 : X := (.seq (.reg [7] (.c (.q 27 [] (.mv (.t 7))) (.c (.q 28 [] (.mv (.t 7))) (.c (.q 29 [] (.lens (.t 28))) (.c (.q 30 [] (.bin .sub (.t 29) (.c (.int .i64 1)))) (.c (.q 31 [] (.mv (.t 1))) (.c (.q 32 [] (.ia 1 (.t 27) (.t 30))) (.c (.e none [] (.st 1 (.t 32) (.t 31))) .nil)))))))) t100_8)
def t100_9 := b100_9
theorem u100_9 : vcK P t100_9 k e w = vcK P b100_9 k e w := rfl
abbrev b100_10 : X := (.seq (.seq (.reg [0, 1, 5, 6, 7, 8] (.c (.q 8 [] (.mv (.c (.int .i64 0)))) .nil)) t100_7) t100_9)
def t100_10 := b100_10
theorem u100_10 : vcK P t100_10 k e w = vcK P b100_10 k e w := rfl
abbrev b100_11 : X := (.seq (.reg [0, 1, 5, 6, 7] (.c (.q 7 [] (.mv (.c (.slice none 0 0)))) .nil)) t100_10)
def t100_11 := b100_11
theorem u100_11 : vcK P t100_11 k e w = vcK P b100_11 k e w := rfl
abbrev b100_12 : X := (.seq (.seq (.reg [0, 1, 5, 6, 14] (.c (.q 12 [] (.mv (.t 0))) (.c (.q 13 [] (.bin .rem (.t 12) (.c (.int .i64 2)))) (.c (.q 14 [] (.bin .eql (.t 13) (.c (.int .i64 1)))) .nil)))) t100_2) t100_11)
def t100_12 := b100_12
theorem u100_12 : vcK P t100_12 k e w = vcK P b100_12 k e w := rfl
abbrev b100_13 : X := (.seq (.reg [0, 1, 5, 6] (.c (.q 9 [] (.mv (.t 0))) (.c (.e (some 10) [] (.call false 80 [(.t 9)])) (.c (.q 11 [] (.bin .add (.s [49]) (.t 10))) (.c (.q 5 [] (.mv (.s [45]))) (.c (.q 6 [] (.mv (.t 11))) .nil)))))) t100_12)
def t100_13 := b100_13
theorem u100_13 : vcK P t100_13 k e w = vcK P b100_13 k e w := rfl
abbrev b100_0 : X := (.seq (.reg [0, 1] (.c (.q 4 [] (.mv (.c (.slice none 0 0)))) .nil)) t100_13)
def x_sl4Hunting := b100_0
theorem u100_0 : vcK P x_sl4Hunting k e w = vcK P b100_0 k e w := rfl
def r_sl4Hunting : List XO := [(.mv (.t 4))]
theorem c_sl4Hunting : convF Try.prog [38, 39, 41, 42, 49, 54, 55, 57, 58, 59, 73, 79, 81, 84, 87, 139] Try.f100 [([0, 1], []), ([0, 1, 5, 6], []), ([0, 1, 5, 6, 14], []), ([0, 1, 5], []), ([0, 1, 5, 6], []), ([0, 1, 5, 6, 7], []), ([0, 1, 5, 6, 7, 8], []), ([7, 8], [0, 1, 5, 6]), ([0, 1, 5, 6, 7, 8, 19], []), ([0, 1, 5, 6, 7, 8], []), ([0, 1, 5, 6, 7, 8], []), ([7], []), ([4], [])] = some (x_sl4Hunting, r_sl4Hunting) := by kernel_rfl
def us_sl4Hunting :=  (aI (aI (aI @u100_0 (aI @u100_1 @u100_2)) (aI (aI @u100_3 @u100_4) (aI @u100_5 @u100_6))) (aI (aI @u100_7 (aI @u100_8 @u100_9)) (aI (aI @u100_10 @u100_11) (aI @u100_12 @u100_13))))
abbrev b84_1 : X := (.cond (.t 42) (.reg [2, 3, 4, 5] (.c (.q 43 [] (.mv (.t 3))) (.c (.e (some 44) [] (.call false 80 [(.t 43)])) (.c (.q 45 [] (.bin .add (.s [49, 50]) (.t 44))) (.c (.q 5 [] (.mv (.t 45))) .nil))))) .skip)
def t84_1 := b84_1
theorem u84_1 : vcK P t84_1 k e w = vcK P b84_1 k e w := rfl
abbrev b84_2 : X := (.reg [2, 4] (.c (.q 46 [] (.mv (.t 3))) (.c (.q 47 [] (.mv (.t 5))) (.c (.e (some 48) [] (.call false 100 [(.t 46), (.t 47)])) (.c (.q 49 [] (.fa 2 (.t 4))) (.c (.e none [] (.st 1 (.t 49) (.t 48))) .nil))))))
def t84_2 := b84_2
theorem u84_2 : vcK P t84_2 k e w = vcK P b84_2 k e w := rfl
abbrev b84_3 : X := (.seq (.seq (.reg [2, 3, 4, 5, 42] (.c (.q 40 [] (.mv (.t 3))) (.c (.q 41 [] (.bin .rem (.t 40) (.c (.int .i64 2)))) (.c (.q 42 [] (.bin .eql (.t 41) (.c (.int .i64 1)))) .nil)))) t84_1) t84_2)
def t84_3 := b84_3
theorem u84_3 : vcK P t84_3 k e w = vcK P b84_3 k e w := rfl
abbrev b84_4 : X := (.cond (.t 57) .skip (.exit 3))
def t84_4 := b84_4
theorem u84_4 : vcK P t84_4 k e w = vcK P b84_4 k e w := rfl
abbrev b84_5 : X := (.reg [0, 2, 3, 4, 6, 7] (.c (.q 58 [] (.mv (.t 7))) (.c (.q 59 [] (.bin .sub (.t 58) (.c (.int .i64 1)))) (.c (.q 7 [] (.mv (.t 59))) .nil))))
def t84_5 := b84_5
theorem u84_5 : vcK P t84_5 k e w = vcK P b84_5 k e w := rfl
abbrev b84_6 : X := (.seq (.blk 4 (.reg [0, 2, 3, 4, 6, 7] (.c (.q 60 [] (.mv (.t 6))) (.c (.q 61 [] (.mv (.t 0))) (.c (.q 62 [] (.mv (.t 3))) (.c (.e (some 63) [] (.call true 81 [(.t 61), (.t 62)])) (.c (.e (some 64) [] (.bsl 9 1 [(.t 63)])) (.c (.e (some 65) [] (.app 24 9 1 16 [(S [])] 24 (.t 60) (.t 64))) (.c (.q 6 [] (.mv (.t 65))) .nil))))))))) t84_5)
def t84_6 := b84_6
theorem u84_6 : vcK P t84_6 k e w = vcK P b84_6 k e w := rfl
abbrev b84_7 : X := (.seq (.seq (.reg [0, 2, 3, 4, 6, 7, 57] (.c (.q 56 [] (.mv (.t 7))) (.c (.q 57 [] (.bin .gtr (.t 56) (.c (.int .i64 0)))) .nil))) t84_4) t84_6)
def t84_7 := b84_7
theorem u84_7 : vcK P t84_7 k e w = vcK P b84_7 k e w := rfl
abbrev b84_8 : X := (.blk 3 (.loop [6, 7] [0, 2, 3, 4] t84_7))
def t84_8 := b84_8
theorem u84_8 : vcK P t84_8 k e w = vcK P b84_8 k e w := rfl
abbrev b84_9 : X := (.cond (.t 78) .skip (.exit 5))
def t84_9 := b84_9
theorem u84_9 : vcK P t84_9 k e w = vcK P b84_9 k e w := rfl
abbrev b84_10 : X := (.reg [0, 2, 3, 4, 6, 8] (.c (.q 79 [] (.mv (.t 8))) (.c (.q 80 [] (.bin .sub (.t 79) (.c (.int .i64 1)))) (.c (.q 8 [] (.mv (.t 80))) .nil))))
def t84_10 := b84_10
theorem u84_10 : vcK P t84_10 k e w = vcK P b84_10 k e w := rfl
abbrev b84_11 : X := (.seq (.blk 6 (.drw [0, 2, 3, 4, 6, 8] (.c (.q 81 [] (.fa 2 (.t 4))) (.c (.q 82 [] (.ld (.t 81))) (.c (.q 83 [] (.mv (.t 6))) (.c (.q 84 [] (.mv (.t 8))) (.c (.q 85 [] (.ia 1 (.t 83) (.t 84))) (.c (.q 86 [] (.ld (.t 85))) (.c (.e (some 87) [] (.bsl 9 1 [(.t 86)])) (.c (.e (some 88) [] (.app 24 9 1 16 [(S [])] 24 (.t 82) (.t 87))) (.c (.q 89 [] (.fa 2 (.t 4))) (.c (.e none [] (.st 1 (.t 89) (.t 88))) .nil)))))))))))) t84_10)
def t84_11 := b84_11
theorem u84_11 : vcK P t84_11 k e w = vcK P b84_11 k e w := rfl
abbrev b84_12 : X := (.seq (.seq (.reg [0, 2, 3, 4, 6, 8, 78] (.c (.q 77 [] (.mv (.t 8))) (.c (.q 78 [] (.bin .geq (.t 77) (.c (.int .i64 0)))) .nil))) t84_9) t84_11)
def t84_12 := b84_12
theorem u84_12 : vcK P t84_12 k e w = vcK P b84_12 k e w := rfl
abbrev b84_13 : X := (.blk 5 (.loop [8] [0, 2, 3, 4, 6] t84_12))
def t84_13 := b84_13
theorem u84_13 : vcK P t84_13 k e w = vcK P b84_13 k e w := rfl
abbrev b84_14 : X := (.drw [2, 4] (.c (.q 90 [] (.fa 2 (.t 4))) (.c (.q 92 [] (.mv (.t 0))) (.c (.q 93 [] (.mv (.t 3))) (.alt (.c (.p 91 [] (.ld (.t 90))) (.c (.e (some 94) [] (.call true 81 [(.t 92), (.t 93)])) (.c (.e (some 95) [] (.bsl 9 1 [(.t 94)])) (.c (.e (some 96) [] (.app 24 9 1 16 [(S [])] 24 (.t 91) (.t 95))) (.c (.q 97 [] (.fa 2 (.t 4))) (.c (.e none [] (.st 1 (.t 97) (.t 96))) .nil)))))) (.c (.e (some 94) [] (.call true 81 [(.t 92), (.t 93)])) (.alt (.c (.p 91 [] (.ld (.t 90))) (.c (.e (some 95) [] (.bsl 9 1 [(.t 94)])) (.c (.e (some 96) [] (.app 24 9 1 16 [(S [])] 24 (.t 91) (.t 95))) (.c (.q 97 [] (.fa 2 (.t 4))) (.c (.e none [] (.st 1 (.t 97) (.t 96))) .nil))))) (.c (.e (some 95) [] (.bsl 9 1 [(.t 94)])) (.c (.p 91 [] (.ld (.t 90))) (.c (.e (some 96) [] (.app 24 9 1 16 [(S [])] 24 (.t 91) (.t 95))) (.c (.q 97 [] (.fa 2 (.t 4))) (.c (.e none [] (.st 1 (.t 97) (.t 96))) .nil))))))))))))
def t84_14 := b84_14
theorem u84_14 : vcK P t84_14 k e w = vcK P b84_14 k e w := rfl
abbrev b84_15 : X := (.seq (.seq (.reg [0, 2, 3, 4, 6, 8] (.c (.q 74 [] (.mv (.t 6))) (.c (.q 75 [] (.lens (.t 74))) (.c (.q 76 [] (.bin .sub (.t 75) (.c (.int .i64 1)))) (.c (.q 8 [] (.mv (.t 76))) .nil))))) t84_13) t84_14)
def t84_15 := b84_15
theorem u84_15 : vcK P t84_15 k e w = vcK P b84_15 k e w := rfl
abbrev b84_16 : X := (.seq (.reg [0, 2, 3, 4, 6] (.c (.q 66 [] (.mv (.t 6))) (.c (.e (some 67) [] (.call false 78 [(.t 66)])) (.c (.q 68 [] (.mv (.t 0))) (.c (.q 69 [] (.mv (.t 3))) (.c (.e (some 70) [] (.call true 81 [(.t 68), (.t 69)])) (.c (.e (some 71) [] (.bsl 9 1 [(.t 70)])) (.c (.e (some 72) [] (.app 24 9 1 16 [(S [])] 24 (.t 67) (.t 71))) (.c (.q 73 [] (.fa 2 (.t 4))) (.c (.e none [] (.st 1 (.t 73) (.t 72))) .nil)))))))))) t84_15)
def t84_16 := b84_16
theorem u84_16 : vcK P t84_16 k e w = vcK P b84_16 k e w := rfl
abbrev b84_17 : X := (.seq (.seq (.reg [0, 2, 3, 4, 6, 7] (.c (.q 53 [] (.mv (.t 0))) (.c (.e (some 54) [] (.call true 39 [(.t 53), (.c (.int .i64 4))])) (.c (.q 55 [] (.bin .add (.c (.int .i64 1)) (.t 54))) (.c (.q 7 [] (.mv (.t 55))) .nil))))) t84_8) t84_16)
def t84_17 := b84_17
theorem u84_17 : vcK P t84_17 k e w = vcK P b84_17 k e w := rfl
abbrev b84_18 : X := (.cond (.t 22) .skip (.exit 1))
def t84_18 := b84_18
theorem u84_18 : vcK P t84_18 k e w = vcK P b84_18 k e w := rfl
abbrev b84_19 : X := (.reg [0, 2, 3, 4, 9] (.c (.q 23 [] (.mv (.t 9))) (.c (.q 24 [] (.bin .sub (.t 23) (.c (.int .i64 1)))) (.c (.q 9 [] (.mv (.t 24))) .nil))))
def t84_19 := b84_19
theorem u84_19 : vcK P t84_19 k e w = vcK P b84_19 k e w := rfl
abbrev b84_20 : X := (.seq (.blk 2 (.drw [0, 2, 3, 4, 9] (.c (.q 25 [] (.fa 2 (.t 4))) (.c (.q 27 [] (.mv (.t 0))) (.c (.q 28 [] (.mv (.t 3))) (.alt (.c (.p 26 [] (.ld (.t 25))) (.c (.e (some 29) [] (.call true 81 [(.t 27), (.t 28)])) (.c (.e (some 30) [] (.bsl 9 1 [(.t 29)])) (.c (.e (some 31) [] (.app 24 9 1 16 [(S [])] 24 (.t 26) (.t 30))) (.c (.q 32 [] (.fa 2 (.t 4))) (.c (.e none [] (.st 1 (.t 32) (.t 31))) .nil)))))) (.c (.e (some 29) [] (.call true 81 [(.t 27), (.t 28)])) (.alt (.c (.p 26 [] (.ld (.t 25))) (.c (.e (some 30) [] (.bsl 9 1 [(.t 29)])) (.c (.e (some 31) [] (.app 24 9 1 16 [(S [])] 24 (.t 26) (.t 30))) (.c (.q 32 [] (.fa 2 (.t 4))) (.c (.e none [] (.st 1 (.t 32) (.t 31))) .nil))))) (.c (.e (some 30) [] (.bsl 9 1 [(.t 29)])) (.c (.p 26 [] (.ld (.t 25))) (.c (.e (some 31) [] (.app 24 9 1 16 [(S [])] 24 (.t 26) (.t 30))) (.c (.q 32 [] (.fa 2 (.t 4))) (.c (.e none [] (.st 1 (.t 32) (.t 31))) .nil))))))))))))) t84_19)
def t84_20 := b84_20
theorem u84_20 : vcK P t84_20 k e w = vcK P b84_20 k e w := rfl
abbrev b84_21 : X := (.seq (.seq (.reg [0, 2, 3, 4, 9, 22] (.c (.q 21 [] (.mv (.t 9))) (.c (.q 22 [] (.bin .gtr (.t 21) (.c (.int .i64 0)))) .nil))) t84_18) t84_20)
def t84_21 := b84_21
theorem u84_21 : vcK P t84_21 k e w = vcK P b84_21 k e w := rfl
abbrev b84_22 : X := (.blk 1 (.loop [9] [0, 2, 3, 4] t84_21))
def t84_22 := b84_22
theorem u84_22 : vcK P t84_22 k e w = vcK P b84_22 k e w := rfl
abbrev b84_23 : X := (.cond (.t 50) (.seq (.reg [0, 2, 3, 4, 6] (.c (.q 6 [] (.mv (.c (.slice none 0 0)))) .nil)) t84_17) (.seq (.reg [0, 2, 3, 4, 9] (.c (.q 18 [] (.mv (.t 0))) (.c (.e (some 19) [] (.call true 39 [(.t 18), (.c (.int .i64 8))])) (.c (.q 20 [] (.bin .add (.c (.int .i64 1)) (.t 19))) (.c (.q 9 [] (.mv (.t 20))) .nil))))) t84_22))
def t84_23 := b84_23
theorem u84_23 : vcK P t84_23 k e w = vcK P b84_23 k e w := rfl
abbrev b84_24 : X := (.cond (.t 33) (.seq (.reg [2, 3, 4, 5] (.c (.q 5 [] (.mv (.s [49, 50]))) .nil)) t84_3) (.seq (.reg [0, 2, 3, 4, 50] (.c (.q 51 [] (.mv (.t 0))) (.c (.e (some 52) [] (.call true 38 [(.t 51), (.c (.int .i64 2))])) (.c (.q 50 [] (.mv (.t 52))) .nil)))) t84_23))
def t84_24 := b84_24
theorem u84_24 : vcK P t84_24 k e w = vcK P b84_24 k e w := rfl
abbrev b84_25 : X := (.seq (.reg [2] (.c (.q 98 [] (.lda 3 (.t 4))) (.c (.e none [] (.st 3 (.t 2) (.t 98))) .nil))) .ret)
def t84_25 := b84_25
theorem u84_25 : vcK P t84_25 k e w = vcK P b84_25 k e w := rfl
abbrev b84_26 : X := (.seq (.blk 0 (.seq (.reg [0, 2, 3, 4, 33] (.c (.q 34 [] (.mv (.t 3))) (.c (.q 35 [] (.bin .geq (.t 34) (.c (.int .i64 4)))) (.c (.q 36 [] (.mv (.t 35))) (.c (.q 37 [(36, true)] (.mv (.t 0))) (.c (.e (some 38) [(36, true)] (.call true 38 [(.t 37), (.c (.int .i64 2))])) (.c (.q 39 [] (.pick (.t 36) (.t 38) (.c (.bool false)))) (.c (.q 33 [] (.mv (.t 39))) .nil)))))))) t84_24)) t84_25)
def t84_26 := b84_26
theorem u84_26 : vcK P t84_26 k e w = vcK P b84_26 k e w := rfl
abbrev b84_27 : X := (.seq (.reg [0, 2, 3, 4] (.c (.q 13 [] (.mv (.t 0))) (.c (.e (some 14) [] (.bsl 9 1 [(.s [97]), (.s [112, 108, 97, 105, 110]), (.s [98, 111, 98]), (.s [108, 105, 116, 116, 108, 101])])) (.c (.e (some 15) [] (.call true 42 [(.t 13), (.t 14)])) (.c (.q 16 [] (.mv (.t 3))) (.c (.q 17 [] (.bld [(S []), (.int .i64 0), (.slice none 0 0)] [(0, 0, (.t 15)), (1, 0, (.t 16))])) (.c (.e (some 4) [] (.al 44 [(S []), (.int .i64 0), (.slice none 0 0)])) (.c (.e none [] (.st 3 (.t 4) (.t 17))) .nil)))))))) t84_26)
def t84_27 := b84_27
theorem u84_27 : vcK P t84_27 k e w = vcK P b84_27 k e w := rfl
abbrev b84_28 : X := (.seq (.reg [0, 2, 3] (.c (.q 10 [] (.mv (.t 0))) (.c (.e (some 11) [] (.bsl 3 1 [(.c (.int .i64 4)), (.c (.int .i64 4)), (.c (.int .i64 5)), (.c (.int .i64 6)), (.c (.int .i64 6)), (.c (.int .i64 3))])) (.c (.e (some 12) [] (.call true 58 [(.t 10), (.t 11)])) (.c (.q 3 [] (.mv (.t 12))) .nil))))) t84_27)
def t84_28 := b84_28
theorem u84_28 : vcK P t84_28 k e w = vcK P b84_28 k e w := rfl
abbrev b84_0 : X := (.seq (.reg [0, 2] (.c (.e (some 2) [] (.al 44 [(S []), (.int .i64 0), (.slice none 0 0)])) .nil)) t84_28)
def x_sl1Cur_method := b84_0
theorem u84_0 : vcK P x_sl1Cur_method k e w = vcK P b84_0 k e w := rfl
def r_sl1Cur_method : List XO := [(.lda 3 (.t 2))]
theorem c_sl1Cur_method : convF Try.prog [38, 39, 41, 42, 49, 54, 55, 57, 58, 59, 73, 79, 81, 84, 87, 139] Try.f84 [([0, 2], []), ([0, 2, 3], []), ([0, 2, 3, 4], []), ([0, 2, 3, 4, 33], []), ([2, 3, 4, 5], []), ([2, 3, 4, 5, 42], []), ([2, 3, 4, 5], []), ([2, 4], []), ([0, 2, 3, 4, 50], []), ([0, 2, 3, 4, 6], []), ([0, 2, 3, 4, 6, 7], []), ([6, 7], [0, 2, 3, 4]), ([0, 2, 3, 4, 6, 7, 57], []), ([0, 2, 3, 4, 6, 7], []), ([0, 2, 3, 4, 6, 7], []), ([0, 2, 3, 4, 6], []), ([0, 2, 3, 4, 6, 8], []), ([8], [0, 2, 3, 4, 6]), ([0, 2, 3, 4, 6, 8, 78], []), ([0, 2, 3, 4, 6, 8], []), ([0, 2, 3, 4, 6, 8], []), ([2, 4], []), ([0, 2, 3, 4, 9], []), ([9], [0, 2, 3, 4]), ([0, 2, 3, 4, 9, 22], []), ([0, 2, 3, 4, 9], []), ([0, 2, 3, 4, 9], []), ([2], [])] = some (x_sl1Cur_method, r_sl1Cur_method) := by kernel_rfl
def us_sl1Cur_method :=  (aI (aI (aI (aI @u84_0 (aI @u84_1 @u84_2)) (aI (aI @u84_3 @u84_4) (aI @u84_5 @u84_6))) (aI (aI @u84_7 (aI @u84_8 @u84_9)) (aI (aI @u84_10 @u84_11) (aI @u84_12 @u84_13)))) (aI (aI (aI @u84_14 (aI @u84_15 @u84_16)) (aI (aI @u84_17 @u84_18) (aI @u84_19 @u84_20))) (aI (aI (aI @u84_21 @u84_22) (aI @u84_23 @u84_24)) (aI (aI @u84_25 @u84_26) (aI @u84_27 @u84_28)))))
end
def oneOf (n : Nat) : List UInt8 := if n % 2 = 1 then [UInt8.ofNat (48 + n)] else [45]
def twoOf (n : Nat) : List UInt8 := if n % 2 = 1 then [49] else [49, UInt8.ofNat (48 + n)]
def huntGo (n k : Nat) : List (List UInt8) := (List.range k).flatMap fun _ => [oneOf n, twoOf n]
def huntL (n : Nat) (last : List UInt8) : List (List UInt8) := (huntGo n n).set (2 * n - 1) last
theorem huntGo_len (n k : Nat) : (huntGo n k).length = 2 * k := by
  unfold huntGo
  induction k with
  | zero => rfl
  | succ k ih => rw [List.range_succ, List.flatMap_append, List.length_append, ih]; simp; omega
theorem huntGo_succ (n k : Nat) : huntGo n (k + 1) = huntGo n k ++ [oneOf n, twoOf n] := by
  unfold huntGo
  rw [List.range_succ, List.flatMap_append]
  rfl
theorem sl4Hunting_ok (n : Nat) (last : List UInt8) (hn : 3 ≤ n ∧ n ≤ 8) (w : World) : Fn 100 [.int .i64 n, S last] w (fun r w' => Own fS 1 9 w.heap.size w' r (huntL n last)) := by
  (refine callsV_of mix Try.func100 c_sl4Hunting ?_; simp only [↓vsd, vsn, gW, qd, qv, ev, pick, argE, zipE, ne_eq, eq_self, forall_const, implies_true, if_true, if_false, reduceIte, reduceCtorEq, Nat.reduceEqDiff, Nat.reduceAdd, Nat.reduceLT, ↓us_sl4Hunting, r_sl4Hunting])
  refine m_call (sl1Num_dig n (by omega) _) ?_
  rintro _ w1 hx1 rfl
  simp only [↓vsd, vsn, gW, qd, qv, ev, pick, argE, zipE, ne_eq, eq_self, forall_const, implies_true, if_true, if_false, reduceIte, reduceCtorEq, Nat.reduceEqDiff, Nat.reduceAdd, Nat.reduceLT, ↓us_sl4Hunting, r_sl4Hunting]
  have hb8 : (UInt8.ofNat (48 + n)).toNat < 256 := (UInt8.ofNat (48 + n)).toNat_lt
  refine ⟨by omega, by decide, fun hodd => ?_, fun heven => ?_⟩
  · have ho : n % 2 = 1 := by omega
    refine m_call (sl1Num_dig n (by omega) _) ?_
    rintro _ w2' hx2' rfl
    have hx2 := hx1.trans hx2'
    have e1 : [UInt8.ofNat (48 + n)] = oneOf n := by rw [oneOf, if_pos ho]
    have e2 : [49] = twoOf n := by rw [twoOf, if_pos ho]
    simp only [↓vsd, vsn, gW, qd, qv, ev, pick, argE, zipE, ne_eq, eq_self, forall_const, implies_true, if_true, if_false, reduceIte, reduceCtorEq, Nat.reduceEqDiff, Nat.reduceAdd, Nat.reduceLT, ↓us_sl4Hunting, r_sl4Hunting]
    rw [e1, e2]
    refine m_upto n (fun k vs w' => ∃ o, vs = [o, .int .i64 k] ∧ Own fS 1 9 w.heap.size w' o (huntGo n k) ∧ Ext w w') ⟨_, rfl, Own.nil fS_len, hx2⟩ ?_
    rintro k vs w3 hk ⟨o, rfl, ho3, hx3⟩
    have hgl := huntGo_len n k
    by_cases hlt : k < n
    · have hltI : (k : Int) < n := by omega
      have hltJ : ¬ (n : Int) ≤ k := by omega
      simp only [↓vsd, vsn, gW, qd, qv, ev, pick, argE, zipE, ne_eq, eq_self, forall_const, implies_true, if_true, if_false, reduceIte, reduceCtorEq, Nat.reduceEqDiff, Nat.reduceAdd, Nat.reduceLT, ↓us_sl4Hunting, r_sl4Hunting, hltI, hltJ]
      refine m_bsl (fun p hp => by simp only [List.mem_cons, List.not_mem_nil, or_false] at hp; rcases hp with rfl | rfl <;> rfl) ?_
      rintro b4 w4 hb4 hblk4 hx4 hs4
      simp only [↓vsd, vsn, gW, qd, qv, ev, pick, argE, zipE, ne_eq, eq_self, forall_const, implies_true, if_true, if_false, reduceIte, reduceCtorEq, Nat.reduceEqDiff, Nat.reduceAdd, Nat.reduceLT, ↓us_sl4Hunting, r_sl4Hunting]
      refine m_app2 (ho3.ext hx4) (Sq.lit [oneOf n, twoOf n] 2 fS_len hblk4 rfl rfl) fS_one (by decide) (by simp only [List.length_cons, List.length_nil]; omega) (by decide) ((hx3.trans hx4).size) ?_
      rintro o5 w5 ho5 hg5 _
      have hx5 := (ho3.ext hx4).grown (hx3.trans hx4) (Nat.le_refl _) hg5
      simp only [↓vsd, vsn, gW, qd, qv, ev, pick, argE, zipE, ne_eq, eq_self, forall_const, implies_true, if_true, if_false, reduceIte, reduceCtorEq, Nat.reduceEqDiff, Nat.reduceAdd, Nat.reduceLT, ↓us_sl4Hunting, r_sl4Hunting]
      exact ⟨inR_i64 (by omega), UpTo.next hlt ⟨o5, rfl, ho5.to (huntGo_succ n k).symm, hx5⟩⟩
    · obtain rfl : k = n := by omega
      have hltI : ¬ (k : Int) < k := by omega
      have eI : ((2 * k : Nat) : Int) - 1 = (2 * k - 1 : Nat) := by omega
      simp only [↓vsd, vsn, gW, qd, qv, ev, pick, argE, zipE, ne_eq, eq_self, forall_const, implies_true, if_true, if_false, reduceIte, reduceCtorEq, Nat.reduceEqDiff, Nat.reduceAdd, Nat.reduceLT, ↓us_sl4Hunting, r_sl4Hunting, hltI, ho3.sq.facts, hgl, eI]
      refine ⟨inR_i64 (by omega), by omega, m_set1 (2 * k - 1) last ho3 rfl (by omega) rfl fS_one ?_⟩
      rintro w4 ho4 hg4 _
      have hx4 := ho3.grown hx3 (Nat.le_refl _) hg4
      simp only [↓vsd, vsn, gW, qd, qv, ev, pick, argE, zipE, ne_eq, eq_self, forall_const, implies_true, if_true, if_false, reduceIte, reduceCtorEq, Nat.reduceEqDiff, Nat.reduceAdd, Nat.reduceLT, ↓us_sl4Hunting, r_sl4Hunting]
      exact ⟨hx4, ho4⟩
  · have ho : ¬ n % 2 = 1 := by omega
    have hx2 := hx1
    have e1 : [45] = oneOf n := by rw [oneOf, if_neg ho]
    have e2 : [49, UInt8.ofNat (48 + n)] = twoOf n := by rw [twoOf, if_neg ho]
    rw [e1, e2]
    refine m_upto n (fun k vs w' => ∃ o, vs = [o, .int .i64 k] ∧ Own fS 1 9 w.heap.size w' o (huntGo n k) ∧ Ext w w') ⟨_, rfl, Own.nil fS_len, hx2⟩ ?_
    rintro k vs w3 hk ⟨o, rfl, ho3, hx3⟩
    have hgl := huntGo_len n k
    by_cases hlt : k < n
    · have hltI : (k : Int) < n := by omega
      have hltJ : ¬ (n : Int) ≤ k := by omega
      simp only [↓vsd, vsn, gW, qd, qv, ev, pick, argE, zipE, ne_eq, eq_self, forall_const, implies_true, if_true, if_false, reduceIte, reduceCtorEq, Nat.reduceEqDiff, Nat.reduceAdd, Nat.reduceLT, ↓us_sl4Hunting, r_sl4Hunting, hltI, hltJ]
      refine m_bsl (fun p hp => by simp only [List.mem_cons, List.not_mem_nil, or_false] at hp; rcases hp with rfl | rfl <;> rfl) ?_
      rintro b4 w4 hb4 hblk4 hx4 hs4
      simp only [↓vsd, vsn, gW, qd, qv, ev, pick, argE, zipE, ne_eq, eq_self, forall_const, implies_true, if_true, if_false, reduceIte, reduceCtorEq, Nat.reduceEqDiff, Nat.reduceAdd, Nat.reduceLT, ↓us_sl4Hunting, r_sl4Hunting]
      refine m_app2 (ho3.ext hx4) (Sq.lit [oneOf n, twoOf n] 2 fS_len hblk4 rfl rfl) fS_one (by decide) (by simp only [List.length_cons, List.length_nil]; omega) (by decide) ((hx3.trans hx4).size) ?_
      rintro o5 w5 ho5 hg5 _
      have hx5 := (ho3.ext hx4).grown (hx3.trans hx4) (Nat.le_refl _) hg5
      simp only [↓vsd, vsn, gW, qd, qv, ev, pick, argE, zipE, ne_eq, eq_self, forall_const, implies_true, if_true, if_false, reduceIte, reduceCtorEq, Nat.reduceEqDiff, Nat.reduceAdd, Nat.reduceLT, ↓us_sl4Hunting, r_sl4Hunting]
      exact ⟨inR_i64 (by omega), UpTo.next hlt ⟨o5, rfl, ho5.to (huntGo_succ n k).symm, hx5⟩⟩
    · obtain rfl : k = n := by omega
      have hltI : ¬ (k : Int) < k := by omega
      have eI : ((2 * k : Nat) : Int) - 1 = (2 * k - 1 : Nat) := by omega
      simp only [↓vsd, vsn, gW, qd, qv, ev, pick, argE, zipE, ne_eq, eq_self, forall_const, implies_true, if_true, if_false, reduceIte, reduceCtorEq, Nat.reduceEqDiff, Nat.reduceAdd, Nat.reduceLT, ↓us_sl4Hunting, r_sl4Hunting, hltI, ho3.sq.facts, hgl, eI]
      refine ⟨inR_i64 (by omega), by omega, m_set1 (2 * k - 1) last ho3 rfl (by omega) rfl fS_one ?_⟩
      rintro w4 ho4 hg4 _
      have hx4 := ho3.grown hx3 (Nat.le_refl _) hg4
      simp only [↓vsd, vsn, gW, qd, qv, ev, pick, argE, zipE, ne_eq, eq_self, forall_const, implies_true, if_true, if_false, reduceIte, reduceCtorEq, Nat.reduceEqDiff, Nat.reduceAdd, Nat.reduceLT, ↓us_sl4Hunting, r_sl4Hunting]
      exact ⟨hx4, ho4⟩
def MethV (B : Nat) (r : Value) (w' : World) : Prop := ∃ nm st x cs, r = mV nm st x ∧ Own fS 1 9 B w' x cs ∧ IsMethod nm st cs ∧ st ≤ 6
/-- A method in the making: the cursor, the result's block, the method's block that holds x, and changes cs in a slice y. -/
structure MSd (W : World) (b N : Nat) (w0 : World) (b1 bm : Nat) (nm : List UInt8) (st : Int) (x y : Value) (cs : List (List UInt8)) (w : World) : Prop where
  cur : Cur W b N w
  res : ∃ c : List Value, Blk w b1 c 44 ∧ c.length = 3
  blk : Blk w bm (fM nm st x) 44
  own : Own fS 1 9 (bm + 1) w y cs
  gr : w0.grownBy w (some b)
  lo : b < w0.heap.size ∧ w0.heap.size ≤ b1 ∧ b1 < bm
section
variable {W : World} {b N M : Nat} {w0 : World} {b1 bm : Nat} {nm : List UInt8} {st : Int} {x y z : Value} {cs cs' : List (List UInt8)} {w w' : World}
theorem MSd.draw (h : MSd W b N w0 b1 bm nm st x y cs w) (hc : Cur W b M w') (hg : w.grownBy w' (some b)) : MSd W b M w0 b1 bm nm st x y cs w' := by
  obtain ⟨c, hc1, hc2⟩ := h.res
  have hl := h.lo
  exact ⟨hc, ⟨c, hc1.same (hg.block b1 hc1.lt (fun e => by have := Option.some.inj e; omega)), hc2⟩, h.blk.same (hg.block bm h.blk.lt (fun e => by have := Option.some.inj e; omega)), h.own.keep hg (fun c hc => by have := Option.some.inj hc; omega), grown_trans h.gr hg, hl⟩
theorem MSd.ext (h : MSd W b N w0 b1 bm nm st x y cs w) (hx : Ext w w') : MSd W b N w0 b1 bm nm st x y cs w' := h.draw (h.cur.ext hx) (grown_ext _ hx)
theorem MSd.drew (h : MSd W b N w0 b1 bm nm st x y cs w) : MSd W b N w0 b1 bm nm st x y cs w.drew := h.ext (dr (Ext.refl _))
theorem MSd.mono (h : MSd W b N w0 b1 bm nm st x y cs w) (hm : N ≤ M) : MSd W b M w0 b1 bm nm st x y cs w := ⟨h.cur.mono hm, h.res, h.blk, h.own, h.gr, h.lo⟩
theorem MSd.new (h : MSd W b N w0 b1 bm nm st x y cs w) (ho : Own fS 1 9 (bm + 1) w z cs') : MSd W b N w0 b1 bm nm st x z cs' w := ⟨h.cur, h.res, h.blk, ho, h.gr, h.lo⟩
theorem MSd.room (h : MSd W b N w0 b1 bm nm st x y cs w) : bm + 1 ≤ w.heap.size := h.blk.lt
/-- The changes have grown: their block alone was written. -/
theorem MSd.app (h : MSd W b N w0 b1 bm nm st x y cs w) (ho : Own fS 1 9 (bm + 1) w' z cs') (hg : w.grownBy w' y.ownBlock) : MSd W b N w0 b1 bm nm st x z cs' w' := by
  obtain ⟨c, hc1, hc2⟩ := h.res
  have hl := h.lo
  have hbd : ∀ c, y.ownBlock = some c → bm + 1 ≤ c := fun c hc => (h.own.bound c hc).1
  exact ⟨h.cur.keep hg (fun c hc => by have := hbd c hc; omega), ⟨c, hc1.same (hg.block b1 hc1.lt (fun e => by have := hbd b1 e.symm; omega)), hc2⟩, h.blk.same (hg.block bm h.blk.lt (fun e => by have := hbd bm e.symm; omega)), ho, grown_new h.gr hg (fun c hc => by have := hbd c hc; omega), hl⟩
/-- The method gets its changes. -/
theorem m_stM {P : Program} {m : Option World} {ps : List Nat} {k : KT} {r : XT} {d : Option Nat} {e : EL} (h : MSd W b N w0 b1 bm nm st x y cs w) (ho : Own fS 1 9 (bm + 1) w z cs')
    (hk : ∀ w', MSd W b N w0 b1 bm nm st z z cs' w' → Upd w w' bm → ∀ s, ops P m ps k r (setO ⟨e, s⟩ d undef) w') : stL P m ps k r d e w 1 (.pointer (some ⟨bm, 2, none⟩)) z := by
  have hxc : z.cells = #[z] := of_eq_true ho.sq.oneC
  refine m_st h.blk (by rw [hxc]; rfl) (by decide : 2 + 1 ≤ 3) (by rw [hxc]; intro u hu; simp only [List.mem_singleton] at hu; subst hu; exact ho.sq.one') ?_
  intro w' hblk hu
  rw [hxc] at hblk
  have hb : Blk w' bm (fM nm st z) 44 := hblk
  refine hk w' ?_ hu
  obtain ⟨c, hc1, hc2⟩ := h.res
  have hl := h.lo
  exact ⟨h.cur.keep hu.grown (fun c hc => by have := Option.some.inj hc; omega), ⟨c, hu.blk hc1 (by omega), hc2⟩, hb, ho.upd hu (ho.away' (by omega)), grown_new h.gr hu.grown (fun c hc => by have := Option.some.inj hc; omega), hl⟩
end
theorem hunt_even : ∀ n < 9, 4 ≤ n → n ≤ 6 → n % 2 = 0 → ∀ c ∈ huntL n [49, 50], IsChange n c := by decide +kernel
theorem hunt_odd : ∀ n < 9, 4 ≤ n → n ≤ 6 → n % 2 = 1 → ∀ c ∈ huntL n [49, 50, UInt8.ofNat (48 + n)], IsChange n c := by decide +kernel
theorem huntL_len (n : Nat) (l : List UInt8) : (huntL n l).length = 2 * n := by rw [huntL, List.length_set, huntGo_len]
theorem sl1Cur_method_ok (W : World) (b n : Nat) (w : World) (hn : n ≤ 700000000) (hc : Cur W b n w) : CurFn 84 [cV b] W b n 60 w (fun r w' => MethV w.heap.size r w') := by
  (refine callsV_of mix Try.func84 c_sl1Cur_method ?_; simp only [↓vsd, vsn, gW, qd, qv, ev, pick, argE, zipE, ne_eq, eq_self, forall_const, implies_true, if_true, if_false, reduceIte, reduceCtorEq, Nat.reduceEqDiff, Nat.reduceAdd, Nat.reduceLT, ↓us_sl1Cur_method, r_sl1Cur_method])
  refine m_al ?_
  rintro b1 w1 hb1 hblk1 hx1 hs1
  have hr1 : Blk w1 b1 (fM [] 0 (.slice none 0 0)) 44 := hblk1
  simp only [↓vsd, vsn, gW, qd, qv, ev, pick, argE, zipE, ne_eq, eq_self, forall_const, implies_true, if_true, if_false, reduceIte, reduceCtorEq, Nat.reduceEqDiff, Nat.reduceAdd, Nat.reduceLT, ↓us_sl1Cur_method, r_sl1Cur_method]
  refine m_bsl (fun p hp => by simp only [List.mem_cons, List.not_mem_nil, or_false] at hp; rcases hp with rfl | rfl | rfl | rfl | rfl | rfl <;> rfl) ?_
  rintro b2 w2 hb2 hblk2 hx2 hs2
  simp only [↓vsd, vsn, gW, qd, qv, ev, pick, argE, zipE, ne_eq, eq_self, forall_const, implies_true, if_true, if_false, reduceIte, reduceCtorEq, Nat.reduceEqDiff, Nat.reduceAdd, Nat.reduceLT, ↓us_sl1Cur_method, r_sl1Cur_method]
  have hlt := hc.lt
  refine m_callw (.inl rfl) (sl1Cur_among_ok W b n _ [4, 4, 5, 6, 6, 3] w2 (by omega) (by decide) ((hc.ext hx1).ext hx2) (Sq.litC _ _ fI_len hblk2 rfl rfl (by have := hx1.size; omega))) ?_
  rintro _ w3 ⟨hc3, hg3, st', rfl, hst⟩
  obtain ⟨st, rfl⟩ : ∃ s : Nat, st' = s := ⟨st'.toNat, by simp only [List.mem_cons, List.not_mem_nil, or_false] at hst; omega⟩
  have hst6 : 3 ≤ st ∧ st ≤ 6 := by simp only [List.mem_cons, List.not_mem_nil, or_false] at hst; omega
  have hr3 : Blk w3 b1 (fM [] 0 (.slice none 0 0)) 44 := (hr1.ext hx2).same (hg3.block b1 (hr1.ext hx2).lt (fun e => by have := Option.some.inj e; omega))
  simp only [↓vsd, vsn, gW, qd, qv, ev, pick, argE, zipE, ne_eq, eq_self, forall_const, implies_true, if_true, if_false, reduceIte, reduceCtorEq, Nat.reduceEqDiff, Nat.reduceAdd, Nat.reduceLT, ↓us_sl1Cur_method, r_sl1Cur_method]
  refine m_bsl (fun p hp => by simp only [List.mem_cons, List.not_mem_nil, or_false] at hp; rcases hp with rfl | rfl | rfl | rfl <;> rfl) ?_
  rintro b4 w4 hb4 hblk4 hx4 hs4
  have hb4 : b4 = w3.heap.size := hb4
  simp only [↓vsd, vsn, gW, qd, qv, ev, pick, argE, zipE, ne_eq, eq_self, forall_const, implies_true, if_true, if_false, reduceIte, reduceCtorEq, Nat.reduceEqDiff, Nat.reduceAdd, Nat.reduceLT, ↓us_sl1Cur_method, r_sl1Cur_method]
  have hc4 : Cur W b (n + 2) w4 := by first | exact hc3.ext hx4 | exact hc3.ext (ud hx4)
  have hx4 : Ext w3 w4 := by first | exact hx4 | exact ud hx4
  have hlt3 := hc3.lt
  refine m_callw (by first | exact .inl rfl | exact .inr rfl) (sl1Cur_of_ok W b _ _ [[97], [112, 108, 97, 105, 110], [98, 111, 98], [108, 105, 116, 116, 108, 101]] w4 (by omega) (by decide) hc4 (Sq.litC _ _ fS_len hblk4 rfl rfl (by omega))) ?_
  rintro _ w5 ⟨hc5, hg5, nm, rfl, hnm⟩
  have hword : IsWord nm := by simp only [List.mem_cons, List.not_mem_nil, or_false] at hnm; rcases hnm with rfl | rfl | rfl | rfl <;> decide
  have hr5 : Blk w5 b1 (fM [] 0 (.slice none 0 0)) 44 := (hr3.ext hx4).same (hg5.block b1 (hr3.ext hx4).lt (fun e => by have := Option.some.inj e; omega))
  simp only [↓vsd, vsn, gW, qd, qv, ev, pick, argE, zipE, ne_eq, eq_self, forall_const, implies_true, if_true, if_false, reduceIte, reduceCtorEq, Nat.reduceEqDiff, Nat.reduceAdd, Nat.reduceLT, ↓us_sl1Cur_method, r_sl1Cur_method]
  refine m_al ?_
  rintro bm w6 hbm hblk6 hx6 hs6
  have hlt5 := hc5.lt
  have hM6 : Blk w6 bm (fM [] 0 (.slice none 0 0)) 44 := hblk6
  simp only [↓vsd, vsn, gW, qd, qv, ev, pick, argE, zipE, ne_eq, eq_self, forall_const, implies_true, if_true, if_false, reduceIte, reduceCtorEq, Nat.reduceEqDiff, Nat.reduceAdd, Nat.reduceLT, ↓us_sl1Cur_method, r_sl1Cur_method]
  refine m_st hM6 rfl (Nat.le_refl 3) (fM_one nm st _ rfl) ?_
  rintro w7 hblk7 hu7
  have hM7 : Blk w7 bm (fM nm st (.slice none 0 0)) 44 := hblk7
  have hw5 : w.heap.size ≤ w5.heap.size := by have := hx1.size; have := hx2.size; have := hg3.size; have := hx4.size; have := hg5.size; omega
  have hg05 : w.grownBy w5 (some b) := grown_trans (grown_trans (grown_trans (grown_ext _ (hx1.trans hx2)) hg3) (grown_ext _ hx4)) hg5
  have hg07 : w.grownBy w7 (some b) := grown_new (grown_trans hg05 (grown_ext _ hx6)) hu7.grown (fun c hc => by have := Option.some.inj hc; omega)
  have ms : MSd W b (n + 4) w b1 bm nm st (.slice none 0 0) (.slice none 0 0) [] w7 := ⟨(hc5.ext hx6).keep hu7.grown (fun c hc => by have := Option.some.inj hc; omega), ⟨_, hu7.blk (hr5.ext hx6) (by have := hr5.lt; omega), rfl⟩, hM7, Own.nil fS_len, hg07, by have := hr5.lt; omega⟩
  clear hM7 hg07 hg05 hu7 hblk7 hM6 hblk6
  simp only [↓vsd, vsn, gW, qd, qv, ev, pick, argE, zipE, ne_eq, eq_self, forall_const, implies_true, if_true, if_false, reduceIte, reduceCtorEq, Nat.reduceEqDiff, Nat.reduceAdd, Nat.reduceLT, ↓us_sl1Cur_method, r_sl1Cur_method, ms.blk.facts, fMg]
  refine ⟨fun h4 => ?_, fun h4 => ?_⟩
  · refine m_callw (.inl rfl) (sl1Cur_one_ok W b _ 2 (by omega) _ (by omega) ms.cur) ?_
    rintro _ w8 ⟨hc8, hg8, y8, rfl⟩
    have ms := ms.draw hc8 hg8
    cases y8
    · simp only [↓vsd, vsn, gW, qd, qv, ev, pick, argE, zipE, ne_eq, eq_self, forall_const, implies_true, if_true, if_false, reduceIte, reduceCtorEq, Nat.reduceEqDiff, Nat.reduceAdd, Nat.reduceLT, ↓us_sl1Cur_method, r_sl1Cur_method]
      refine m_callw (.inl rfl) (sl1Cur_one_ok W b _ 2 (by omega) _ (by omega) ms.cur) ?_
      rintro _ w9 ⟨hc9, hg9, y9, rfl⟩
      have ms := ms.draw hc9 hg9
      cases y9
      · simp only [↓vsd, vsn, gW, qd, qv, ev, pick, argE, zipE, ne_eq, eq_self, forall_const, implies_true, if_true, if_false, reduceIte, reduceCtorEq, Nat.reduceEqDiff, Nat.reduceAdd, Nat.reduceLT, ↓us_sl1Cur_method, r_sl1Cur_method, ms.blk.facts, fMg]
        refine m_callw (.inl rfl) (sl1Cur_pick_ok W b _ 8 (by omega) _ (by omega) ms.cur) ?_
        rintro _ w10 ⟨hc10, hg10, q, rfl, hq⟩
        have ms := (ms.draw hc10 hg10).mono (M := n + 10) (by omega)
        simp only [↓vsd, vsn, gW, qd, qv, ev, pick, argE, zipE, ne_eq, eq_self, forall_const, implies_true, if_true, if_false, reduceIte, reduceCtorEq, Nat.reduceEqDiff, Nat.reduceAdd, Nat.reduceLT, ↓us_sl1Cur_method, r_sl1Cur_method]
        refine ⟨inR_i64 (by omega), ?_⟩
        refine m_loop (fun m vs w' => ∃ xx cs, vs = [.int .i64 m] ∧ MSd W b (n + 10 + 2 * cs.length) w b1 bm nm st xx xx cs w' ∧ cs.length + m = 1 + q ∧ ∀ c ∈ cs, IsChange st c) (1 + q) ⟨_, [], by first | rfl | (simp; done) | (simp; omega), ms, by simp, by simp⟩ ?_
        rintro m vs w11 ⟨xx, cs, rfl, ms, hml, hall⟩
        cases m with
        | zero =>
          have h0I : ¬ 0 < ((0 : Nat) : Int) := by omega
          simp only [↓vsd, vsn, gW, qd, qv, ev, pick, argE, zipE, ne_eq, eq_self, forall_const, implies_true, if_true, if_false, reduceIte, reduceCtorEq, Nat.reduceEqDiff, Nat.reduceAdd, Nat.reduceLT, ↓us_sl1Cur_method, r_sl1Cur_method, h0I, ms.blk.facts, fMg]
          have hcs : (1 ≤ cs.length ∧ cs.length ≤ 40) ∧ ∀ c ∈ cs, IsChange st c := ⟨by omega, hall⟩
          have ms := ms.mono (M := n + 60) (by omega)
          obtain ⟨rc, hrc, hrl⟩ := ms.res
          obtain ⟨a1, a2, a3, rfl⟩ : ∃ a b c, rc = [a, b, c] := by match rc, hrl with | [a, b, c], _ => exact ⟨a, b, c, rfl⟩
          refine m_st hrc rfl (Nat.le_refl 3) (fM_one nm st _ ms.own.sq.one') ?_
          rintro wr hbr hur
          have hbr' : Blk wr b1 (fM nm st xx) 44 := hbr
          have hlo := ms.lo
          simp only [↓vsd, vsn, gW, qd, qv, ev, pick, argE, zipE, ne_eq, eq_self, forall_const, implies_true, if_true, if_false, reduceIte, reduceCtorEq, Nat.reduceEqDiff, Nat.reduceAdd, Nat.reduceLT, ↓us_sl1Cur_method, r_sl1Cur_method, hbr'.facts, fMg]
          exact ⟨ms.cur.keep hur.grown (fun c hc => by have := Option.some.inj hc; omega), grown_new ms.gr hur.grown (fun c hc => by have := Option.some.inj hc; omega), nm, st, xx, _, rfl, (ms.own.upd hur (ms.own.away' (by omega))).mono (by omega), ⟨hword, by omega, hcs.1, hcs.2⟩, by omega⟩
        | succ m =>
          have h0I : 0 < ((m + 1 : Nat) : Int) := by omega
          have h0J : ¬ ((m + 1 : Nat) : Int) ≤ 0 := by omega
          have eI : ((m + 1 : Nat) : Int) - 1 = (m : Nat) := by omega
          have ms := ms.drew
          simp only [↓vsd, vsn, gW, qd, qv, ev, pick, argE, zipE, ne_eq, eq_self, forall_const, implies_true, if_true, if_false, reduceIte, reduceCtorEq, Nat.reduceEqDiff, Nat.reduceAdd, Nat.reduceLT, ↓us_sl1Cur_method, r_sl1Cur_method, h0I, h0J, ms.blk.facts, fMg]
          refine ⟨?_, ?_⟩
          · refine m_callw (.inr rfl) (sl1Cur_change_ok W b _ st (by omega) _ (by omega) ms.cur) ?_
            rintro _ w12 ⟨hc12, hg12, ch, rfl, hch⟩
            have ms := ms.draw hc12 hg12
            simp only [↓vsd, vsn, gW, qd, qv, ev, pick, argE, zipE, ne_eq, eq_self, forall_const, implies_true, if_true, if_false, reduceIte, reduceCtorEq, Nat.reduceEqDiff, Nat.reduceAdd, Nat.reduceLT, ↓us_sl1Cur_method, r_sl1Cur_method]
            refine m_bsl (one_el rfl) ?_
            rintro bb wb hbb hblkb hxb hsb
            have ms := ms.ext (by first | exact hxb | exact ud hxb)
            simp only [↓vsd, vsn, gW, qd, qv, ev, pick, argE, zipE, ne_eq, eq_self, forall_const, implies_true, if_true, if_false, reduceIte, reduceCtorEq, Nat.reduceEqDiff, Nat.reduceAdd, Nat.reduceLT, ↓us_sl1Cur_method, r_sl1Cur_method, ms.blk.facts, fMg]
            refine m_app2 ms.own (Sq.one fS_len hblkb rfl) fS_one (by decide) (by simp only [List.length_singleton]; omega) (by decide) ms.room ?_
            rintro yy wc hoc hgc _
            have ms := ms.app hoc hgc
            simp only [↓vsd, vsn, gW, qd, qv, ev, pick, argE, zipE, ne_eq, eq_self, forall_const, implies_true, if_true, if_false, reduceIte, reduceCtorEq, Nat.reduceEqDiff, Nat.reduceAdd, Nat.reduceLT, ↓us_sl1Cur_method, r_sl1Cur_method]
            refine m_stM ms ms.own ?_
            rintro wd ms _
            simp only [↓vsd, vsn, gW, qd, qv, ev, pick, argE, zipE, ne_eq, eq_self, forall_const, implies_true, if_true, if_false, reduceIte, reduceCtorEq, Nat.reduceEqDiff, Nat.reduceAdd, Nat.reduceLT, ↓us_sl1Cur_method, r_sl1Cur_method, eI]
            refine ⟨inR_i64 (by omega), m, by omega, _, _, rfl, ms.mono (by rw [List.length_append, List.length_singleton]; omega), by rw [List.length_append, List.length_singleton]; omega, fun c hc => ?_⟩
            rcases List.mem_append.1 hc with hc | hc
            · exact hall c hc
            · rw [List.mem_singleton.1 hc]; exact hch
          · refine m_callw (.inr rfl) (sl1Cur_change_ok W b _ st (by omega) _ (by omega) ms.cur) ?_
            rintro _ w12 ⟨hc12, hg12, ch, rfl, hch⟩
            have ms := ms.draw hc12 hg12
            simp only [↓vsd, vsn, gW, qd, qv, ev, pick, argE, zipE, ne_eq, eq_self, forall_const, implies_true, if_true, if_false, reduceIte, reduceCtorEq, Nat.reduceEqDiff, Nat.reduceAdd, Nat.reduceLT, ↓us_sl1Cur_method, r_sl1Cur_method, ms.blk.facts, fMg]
            refine ⟨?_, ?_⟩
            · skip
              refine m_bsl (one_el rfl) ?_
              rintro bb wb hbb hblkb hxb hsb
              have ms := ms.ext (by first | exact hxb | exact ud hxb)
              simp only [↓vsd, vsn, gW, qd, qv, ev, pick, argE, zipE, ne_eq, eq_self, forall_const, implies_true, if_true, if_false, reduceIte, reduceCtorEq, Nat.reduceEqDiff, Nat.reduceAdd, Nat.reduceLT, ↓us_sl1Cur_method, r_sl1Cur_method, ms.blk.facts, fMg]
              refine m_app2 ms.own (Sq.one fS_len hblkb rfl) fS_one (by decide) (by simp only [List.length_singleton]; omega) (by decide) ms.room ?_
              rintro yy wc hoc hgc _
              have ms := ms.app hoc hgc
              simp only [↓vsd, vsn, gW, qd, qv, ev, pick, argE, zipE, ne_eq, eq_self, forall_const, implies_true, if_true, if_false, reduceIte, reduceCtorEq, Nat.reduceEqDiff, Nat.reduceAdd, Nat.reduceLT, ↓us_sl1Cur_method, r_sl1Cur_method]
              refine m_stM ms ms.own ?_
              rintro wd ms _
              simp only [↓vsd, vsn, gW, qd, qv, ev, pick, argE, zipE, ne_eq, eq_self, forall_const, implies_true, if_true, if_false, reduceIte, reduceCtorEq, Nat.reduceEqDiff, Nat.reduceAdd, Nat.reduceLT, ↓us_sl1Cur_method, r_sl1Cur_method, eI]
              refine ⟨inR_i64 (by omega), m, by omega, _, _, rfl, ms.mono (by rw [List.length_append, List.length_singleton]; omega), by rw [List.length_append, List.length_singleton]; omega, fun c hc => ?_⟩
              rcases List.mem_append.1 hc with hc | hc
              · exact hall c hc
              · rw [List.mem_singleton.1 hc]; exact hch
            · skip
              refine m_bsl (one_el rfl) ?_
              rintro bb wb hbb hblkb hxb hsb
              have ms := ms.ext (by first | exact hxb | exact ud hxb)
              simp only [↓vsd, vsn, gW, qd, qv, ev, pick, argE, zipE, ne_eq, eq_self, forall_const, implies_true, if_true, if_false, reduceIte, reduceCtorEq, Nat.reduceEqDiff, Nat.reduceAdd, Nat.reduceLT, ↓us_sl1Cur_method, r_sl1Cur_method, ms.blk.facts, fMg]
              refine m_app2 ms.own (Sq.one fS_len hblkb rfl) fS_one (by decide) (by simp only [List.length_singleton]; omega) (by decide) ms.room ?_
              rintro yy wc hoc hgc _
              have ms := ms.app hoc hgc
              simp only [↓vsd, vsn, gW, qd, qv, ev, pick, argE, zipE, ne_eq, eq_self, forall_const, implies_true, if_true, if_false, reduceIte, reduceCtorEq, Nat.reduceEqDiff, Nat.reduceAdd, Nat.reduceLT, ↓us_sl1Cur_method, r_sl1Cur_method]
              refine m_stM ms ms.own ?_
              rintro wd ms _
              simp only [↓vsd, vsn, gW, qd, qv, ev, pick, argE, zipE, ne_eq, eq_self, forall_const, implies_true, if_true, if_false, reduceIte, reduceCtorEq, Nat.reduceEqDiff, Nat.reduceAdd, Nat.reduceLT, ↓us_sl1Cur_method, r_sl1Cur_method, eI]
              refine ⟨inR_i64 (by omega), m, by omega, _, _, rfl, ms.mono (by rw [List.length_append, List.length_singleton]; omega), by rw [List.length_append, List.length_singleton]; omega, fun c hc => ?_⟩
              rcases List.mem_append.1 hc with hc | hc
              · exact hall c hc
              · rw [List.mem_singleton.1 hc]; exact hch
      · simp only [↓vsd, vsn, gW, qd, qv, ev, pick, argE, zipE, ne_eq, eq_self, forall_const, implies_true, if_true, if_false, reduceIte, reduceCtorEq, Nat.reduceEqDiff, Nat.reduceAdd, Nat.reduceLT, ↓us_sl1Cur_method, r_sl1Cur_method, ms.blk.facts, fMg]
        refine m_callw (.inl rfl) (sl1Cur_pick_ok W b _ 4 (by omega) _ (by omega) ms.cur) ?_
        rintro _ w10 ⟨hc10, hg10, q, rfl, hq⟩
        have ms := (ms.draw hc10 hg10).mono (M := n + 10) (by omega)
        simp only [↓vsd, vsn, gW, qd, qv, ev, pick, argE, zipE, ne_eq, eq_self, forall_const, implies_true, if_true, if_false, reduceIte, reduceCtorEq, Nat.reduceEqDiff, Nat.reduceAdd, Nat.reduceLT, ↓us_sl1Cur_method, r_sl1Cur_method]
        refine ⟨inR_i64 (by omega), ?_⟩
        refine m_loop (fun m vs w' => ∃ hv hl, vs = [hv, .int .i64 m] ∧ MSd W b (n + 10 + 2 * hl.length) w b1 bm nm st (.slice none 0 0) hv hl w' ∧ hl.length + m = 1 + q ∧ ∀ c ∈ hl, IsChange st c) (1 + q) ⟨_, [], by first | rfl | (simp; done) | (simp; omega), ms, by simp, by simp⟩ ?_
        rintro m vs w11 ⟨hv, hl, rfl, ms, hml, hall⟩
        cases m with
        | zero =>
          have h0I : ¬ 0 < ((0 : Nat) : Int) := by omega
          have ms := ms.mono (M := n + 20) (by omega)
          simp only [↓vsd, vsn, gW, qd, qv, ev, pick, argE, zipE, ne_eq, eq_self, forall_const, implies_true, if_true, if_false, reduceIte, reduceCtorEq, Nat.reduceEqDiff, Nat.reduceAdd, Nat.reduceLT, ↓us_sl1Cur_method, r_sl1Cur_method, h0I, ms.blk.facts, fMg]
          have hhv := ms.own
          refine m_call (sl1OwnS_ok hv hl (by omega) _ ms.own.sq) ?_
          rintro o12 w12 hx12 ho12
          have hmr := ms.room
          have hx12 : Ext w11 w12 := by first | exact hx12 | exact ud hx12
          have hhv := hhv.ext hx12
          have hfar : ∀ c, o12.ownBlock = some c → Away hv c := fun c hc => ms.own.away (by have := (ho12.bound c hc).1; exact this)
          have ms := (ms.ext hx12).new (ho12.mono (by exact hmr))
          simp only [↓vsd, vsn, gW, qd, qv, ev, pick, argE, zipE, ne_eq, eq_self, forall_const, implies_true, if_true, if_false, reduceIte, reduceCtorEq, Nat.reduceEqDiff, Nat.reduceAdd, Nat.reduceLT, ↓us_sl1Cur_method, r_sl1Cur_method]
          refine m_callw (by first | exact .inl rfl | exact .inr rfl) (sl1Cur_change_ok W b _ st (by omega) _ (by omega) ms.cur) ?_
          rintro _ w13 ⟨hc13, hg13, ch, rfl, hch⟩
          have hlo := ms.lo
          have hhv := hhv.keep hg13 (fun c hc => by have := Option.some.inj hc; omega)
          have ms := ms.draw hc13 hg13
          simp only [↓vsd, vsn, gW, qd, qv, ev, pick, argE, zipE, ne_eq, eq_self, forall_const, implies_true, if_true, if_false, reduceIte, reduceCtorEq, Nat.reduceEqDiff, Nat.reduceAdd, Nat.reduceLT, ↓us_sl1Cur_method, r_sl1Cur_method]
          refine m_bsl (one_el rfl) ?_
          rintro bb wb hbb hblkb hxb hsb
          have ms := ms.ext (by first | exact hxb | exact ud hxb)
          have hhv := hhv.ext (by first | exact hxb | exact ud hxb)
          simp only [↓vsd, vsn, gW, qd, qv, ev, pick, argE, zipE, ne_eq, eq_self, forall_const, implies_true, if_true, if_false, reduceIte, reduceCtorEq, Nat.reduceEqDiff, Nat.reduceAdd, Nat.reduceLT, ↓us_sl1Cur_method, r_sl1Cur_method, ms.blk.facts, fMg]
          refine m_app2 ms.own (Sq.one fS_len hblkb rfl) fS_one (by decide) (by simp only [List.length_singleton]; omega) (by decide) ms.room ?_
          rintro yy wc hoc hgc hnc
          have hfar2 : ∀ c, yy.ownBlock = some c → Away hv c := fun c hc => by
            rcases hnc c hc with h1 | h1
            · exact hfar c h1
            · exact hhv.away h1
          have hhv := hhv.off hgc hfar
          have ms := ms.app hoc hgc
          simp only [↓vsd, vsn, gW, qd, qv, ev, pick, argE, zipE, ne_eq, eq_self, forall_const, implies_true, if_true, if_false, reduceIte, reduceCtorEq, Nat.reduceEqDiff, Nat.reduceAdd, Nat.reduceLT, ↓us_sl1Cur_method, r_sl1Cur_method]
          refine m_stM ms ms.own ?_
          rintro wd ms hud
          have hhv := hhv.upd hud (hhv.away' (by omega))
          have eL : (hl.length : Int) - 1 = ((hl.length : Nat) : Int) - 1 := rfl
          simp only [↓vsd, vsn, gW, qd, qv, ev, pick, argE, zipE, ne_eq, eq_self, forall_const, implies_true, if_true, if_false, reduceIte, reduceCtorEq, Nat.reduceEqDiff, Nat.reduceAdd, Nat.reduceLT, ↓us_sl1Cur_method, r_sl1Cur_method, hhv.sq.facts]
          refine ⟨inR_i64 (by omega), ?_⟩
          refine m_loop (fun m vs w' => ∃ xx cc, vs = [.int .i64 ((m : Int) - 1)] ∧ MSd W b (n + 22) w b1 bm nm st xx xx cc w' ∧ m ≤ hl.length ∧ cc.length + m = 2 * hl.length + 1 ∧ (∀ c ∈ cc, IsChange st c) ∧ Own fS 1 9 (bm + 1) w' hv hl ∧ ∀ c, xx.ownBlock = some c → Away hv c) hl.length ⟨yy, _, by first | rfl | (simp; done) | (simp; omega), ms, Nat.le_refl _, by rw [List.length_append, List.length_singleton]; omega, fun c hc => by
            rcases List.mem_append.1 hc with hc | hc
            · exact hall c hc
            · rw [List.mem_singleton.1 hc]; exact hch, hhv, hfar2⟩ ?_
          rintro m2 vs w14 ⟨xx, cc, rfl, ms, hml2, hcl2, hac, hhv, hfar⟩
          cases m2 with
          | zero =>
            have h0I : ¬ 0 ≤ ((0 : Nat) : Int) - 1 := by omega
            have ms := ms.drew
            simp only [↓vsd, vsn, gW, qd, qv, ev, pick, argE, zipE, ne_eq, eq_self, forall_const, implies_true, if_true, if_false, reduceIte, reduceCtorEq, Nat.reduceEqDiff, Nat.reduceAdd, Nat.reduceLT, ↓us_sl1Cur_method, r_sl1Cur_method, h0I, ms.blk.facts, fMg]
            refine ⟨?_, ?_⟩
            · refine m_callw (.inr rfl) (sl1Cur_change_ok W b _ st (by omega) _ (by omega) ms.cur) ?_
              rintro _ w15 ⟨hc15, hg15, ch2, rfl, hch2⟩
              have ms := ms.draw hc15 hg15
              simp only [↓vsd, vsn, gW, qd, qv, ev, pick, argE, zipE, ne_eq, eq_self, forall_const, implies_true, if_true, if_false, reduceIte, reduceCtorEq, Nat.reduceEqDiff, Nat.reduceAdd, Nat.reduceLT, ↓us_sl1Cur_method, r_sl1Cur_method]
              refine m_bsl (one_el rfl) ?_
              rintro bb wb hbb hblkb hxb hsb
              have ms := ms.ext (by first | exact hxb | exact ud hxb)
              simp only [↓vsd, vsn, gW, qd, qv, ev, pick, argE, zipE, ne_eq, eq_self, forall_const, implies_true, if_true, if_false, reduceIte, reduceCtorEq, Nat.reduceEqDiff, Nat.reduceAdd, Nat.reduceLT, ↓us_sl1Cur_method, r_sl1Cur_method, ms.blk.facts, fMg]
              refine m_app2 ms.own (Sq.one fS_len hblkb rfl) fS_one (by decide) (by simp only [List.length_singleton]; omega) (by decide) ms.room ?_
              rintro yy wc hoc hgc _
              have ms := ms.app hoc hgc
              simp only [↓vsd, vsn, gW, qd, qv, ev, pick, argE, zipE, ne_eq, eq_self, forall_const, implies_true, if_true, if_false, reduceIte, reduceCtorEq, Nat.reduceEqDiff, Nat.reduceAdd, Nat.reduceLT, ↓us_sl1Cur_method, r_sl1Cur_method]
              refine m_stM ms ms.own ?_
              rintro wd ms _
              have hcs : (1 ≤ (cc ++ [ch2]).length ∧ (cc ++ [ch2]).length ≤ 40) ∧ ∀ c ∈ cc ++ [ch2], IsChange st c := ⟨by rw [List.length_append, List.length_singleton]; omega, fun c hc => by
                rcases List.mem_append.1 hc with hc | hc
                · exact hac c hc
                · rw [List.mem_singleton.1 hc]; exact hch2⟩
              obtain ⟨xx, hxx⟩ : ∃ xx, yy = xx := ⟨_, rfl⟩
              subst hxx
              simp only [↓vsd, vsn, gW, qd, qv, ev, pick, argE, zipE, ne_eq, eq_self, forall_const, implies_true, if_true, if_false, reduceIte, reduceCtorEq, Nat.reduceEqDiff, Nat.reduceAdd, Nat.reduceLT, ↓us_sl1Cur_method, r_sl1Cur_method, ms.blk.facts, fMg]
              have ms := ms.mono (M := n + 60) (by omega)
              obtain ⟨rc, hrc, hrl⟩ := ms.res
              obtain ⟨a1, a2, a3, rfl⟩ : ∃ a b c, rc = [a, b, c] := by match rc, hrl with | [a, b, c], _ => exact ⟨a, b, c, rfl⟩
              refine m_st hrc rfl (Nat.le_refl 3) (fM_one nm st _ ms.own.sq.one') ?_
              rintro wr hbr hur
              have hbr' : Blk wr b1 (fM nm st yy) 44 := hbr
              have hlo := ms.lo
              simp only [↓vsd, vsn, gW, qd, qv, ev, pick, argE, zipE, ne_eq, eq_self, forall_const, implies_true, if_true, if_false, reduceIte, reduceCtorEq, Nat.reduceEqDiff, Nat.reduceAdd, Nat.reduceLT, ↓us_sl1Cur_method, r_sl1Cur_method, hbr'.facts, fMg]
              exact ⟨ms.cur.keep hur.grown (fun c hc => by have := Option.some.inj hc; omega), grown_new ms.gr hur.grown (fun c hc => by have := Option.some.inj hc; omega), nm, st, yy, _, rfl, (ms.own.upd hur (ms.own.away' (by omega))).mono (by omega), ⟨hword, by omega, hcs.1, hcs.2⟩, by omega⟩
            · refine m_callw (.inr rfl) (sl1Cur_change_ok W b _ st (by omega) _ (by omega) ms.cur) ?_
              rintro _ w15 ⟨hc15, hg15, ch2, rfl, hch2⟩
              have ms := ms.draw hc15 hg15
              simp only [↓vsd, vsn, gW, qd, qv, ev, pick, argE, zipE, ne_eq, eq_self, forall_const, implies_true, if_true, if_false, reduceIte, reduceCtorEq, Nat.reduceEqDiff, Nat.reduceAdd, Nat.reduceLT, ↓us_sl1Cur_method, r_sl1Cur_method, ms.blk.facts, fMg]
              refine ⟨?_, ?_⟩
              · skip
                refine m_bsl (one_el rfl) ?_
                rintro bb wb hbb hblkb hxb hsb
                have ms := ms.ext (by first | exact hxb | exact ud hxb)
                simp only [↓vsd, vsn, gW, qd, qv, ev, pick, argE, zipE, ne_eq, eq_self, forall_const, implies_true, if_true, if_false, reduceIte, reduceCtorEq, Nat.reduceEqDiff, Nat.reduceAdd, Nat.reduceLT, ↓us_sl1Cur_method, r_sl1Cur_method, ms.blk.facts, fMg]
                refine m_app2 ms.own (Sq.one fS_len hblkb rfl) fS_one (by decide) (by simp only [List.length_singleton]; omega) (by decide) ms.room ?_
                rintro yy wc hoc hgc _
                have ms := ms.app hoc hgc
                simp only [↓vsd, vsn, gW, qd, qv, ev, pick, argE, zipE, ne_eq, eq_self, forall_const, implies_true, if_true, if_false, reduceIte, reduceCtorEq, Nat.reduceEqDiff, Nat.reduceAdd, Nat.reduceLT, ↓us_sl1Cur_method, r_sl1Cur_method]
                refine m_stM ms ms.own ?_
                rintro wd ms _
                have hcs : (1 ≤ (cc ++ [ch2]).length ∧ (cc ++ [ch2]).length ≤ 40) ∧ ∀ c ∈ cc ++ [ch2], IsChange st c := ⟨by rw [List.length_append, List.length_singleton]; omega, fun c hc => by
                  rcases List.mem_append.1 hc with hc | hc
                  · exact hac c hc
                  · rw [List.mem_singleton.1 hc]; exact hch2⟩
                obtain ⟨xx, hxx⟩ : ∃ xx, yy = xx := ⟨_, rfl⟩
                subst hxx
                simp only [↓vsd, vsn, gW, qd, qv, ev, pick, argE, zipE, ne_eq, eq_self, forall_const, implies_true, if_true, if_false, reduceIte, reduceCtorEq, Nat.reduceEqDiff, Nat.reduceAdd, Nat.reduceLT, ↓us_sl1Cur_method, r_sl1Cur_method, ms.blk.facts, fMg]
                have ms := ms.mono (M := n + 60) (by omega)
                obtain ⟨rc, hrc, hrl⟩ := ms.res
                obtain ⟨a1, a2, a3, rfl⟩ : ∃ a b c, rc = [a, b, c] := by match rc, hrl with | [a, b, c], _ => exact ⟨a, b, c, rfl⟩
                refine m_st hrc rfl (Nat.le_refl 3) (fM_one nm st _ ms.own.sq.one') ?_
                rintro wr hbr hur
                have hbr' : Blk wr b1 (fM nm st yy) 44 := hbr
                have hlo := ms.lo
                simp only [↓vsd, vsn, gW, qd, qv, ev, pick, argE, zipE, ne_eq, eq_self, forall_const, implies_true, if_true, if_false, reduceIte, reduceCtorEq, Nat.reduceEqDiff, Nat.reduceAdd, Nat.reduceLT, ↓us_sl1Cur_method, r_sl1Cur_method, hbr'.facts, fMg]
                exact ⟨ms.cur.keep hur.grown (fun c hc => by have := Option.some.inj hc; omega), grown_new ms.gr hur.grown (fun c hc => by have := Option.some.inj hc; omega), nm, st, yy, _, rfl, (ms.own.upd hur (ms.own.away' (by omega))).mono (by omega), ⟨hword, by omega, hcs.1, hcs.2⟩, by omega⟩
              · skip
                refine m_bsl (one_el rfl) ?_
                rintro bb wb hbb hblkb hxb hsb
                have ms := ms.ext (by first | exact hxb | exact ud hxb)
                simp only [↓vsd, vsn, gW, qd, qv, ev, pick, argE, zipE, ne_eq, eq_self, forall_const, implies_true, if_true, if_false, reduceIte, reduceCtorEq, Nat.reduceEqDiff, Nat.reduceAdd, Nat.reduceLT, ↓us_sl1Cur_method, r_sl1Cur_method, ms.blk.facts, fMg]
                refine m_app2 ms.own (Sq.one fS_len hblkb rfl) fS_one (by decide) (by simp only [List.length_singleton]; omega) (by decide) ms.room ?_
                rintro yy wc hoc hgc _
                have ms := ms.app hoc hgc
                simp only [↓vsd, vsn, gW, qd, qv, ev, pick, argE, zipE, ne_eq, eq_self, forall_const, implies_true, if_true, if_false, reduceIte, reduceCtorEq, Nat.reduceEqDiff, Nat.reduceAdd, Nat.reduceLT, ↓us_sl1Cur_method, r_sl1Cur_method]
                refine m_stM ms ms.own ?_
                rintro wd ms _
                have hcs : (1 ≤ (cc ++ [ch2]).length ∧ (cc ++ [ch2]).length ≤ 40) ∧ ∀ c ∈ cc ++ [ch2], IsChange st c := ⟨by rw [List.length_append, List.length_singleton]; omega, fun c hc => by
                  rcases List.mem_append.1 hc with hc | hc
                  · exact hac c hc
                  · rw [List.mem_singleton.1 hc]; exact hch2⟩
                obtain ⟨xx, hxx⟩ : ∃ xx, yy = xx := ⟨_, rfl⟩
                subst hxx
                simp only [↓vsd, vsn, gW, qd, qv, ev, pick, argE, zipE, ne_eq, eq_self, forall_const, implies_true, if_true, if_false, reduceIte, reduceCtorEq, Nat.reduceEqDiff, Nat.reduceAdd, Nat.reduceLT, ↓us_sl1Cur_method, r_sl1Cur_method, ms.blk.facts, fMg]
                have ms := ms.mono (M := n + 60) (by omega)
                obtain ⟨rc, hrc, hrl⟩ := ms.res
                obtain ⟨a1, a2, a3, rfl⟩ : ∃ a b c, rc = [a, b, c] := by match rc, hrl with | [a, b, c], _ => exact ⟨a, b, c, rfl⟩
                refine m_st hrc rfl (Nat.le_refl 3) (fM_one nm st _ ms.own.sq.one') ?_
                rintro wr hbr hur
                have hbr' : Blk wr b1 (fM nm st yy) 44 := hbr
                have hlo := ms.lo
                simp only [↓vsd, vsn, gW, qd, qv, ev, pick, argE, zipE, ne_eq, eq_self, forall_const, implies_true, if_true, if_false, reduceIte, reduceCtorEq, Nat.reduceEqDiff, Nat.reduceAdd, Nat.reduceLT, ↓us_sl1Cur_method, r_sl1Cur_method, hbr'.facts, fMg]
                exact ⟨ms.cur.keep hur.grown (fun c hc => by have := Option.some.inj hc; omega), grown_new ms.gr hur.grown (fun c hc => by have := Option.some.inj hc; omega), nm, st, yy, _, rfl, (ms.own.upd hur (ms.own.away' (by omega))).mono (by omega), ⟨hword, by omega, hcs.1, hcs.2⟩, by omega⟩
          | succ m2 =>
            have h0I : 0 ≤ ((m2 + 1 : Nat) : Int) - 1 := by omega
            have h0J : ¬ ((m2 + 1 : Nat) : Int) - 1 < 0 := by omega
            have eI : ((m2 + 1 : Nat) : Int) - 1 = (m2 : Nat) := by omega
            have hm2 : m2 < hl.length := by omega
            have ms := ms.drew
            have hhvd : Own fS 1 9 (bm + 1) w14.drew hv hl := hhv.ext (dr (Ext.refl _))
            have hmI : ¬ (m2 : Int) < 0 := by omega
            simp only [↓vsd, vsn, gW, qd, qv, ev, pick, argE, zipE, ne_eq, eq_self, forall_const, implies_true, if_true, if_false, reduceIte, reduceCtorEq, Nat.reduceEqDiff, Nat.reduceAdd, Nat.reduceLT, ↓us_sl1Cur_method, r_sl1Cur_method, h0I, h0J, eI, hmI, ms.blk.facts, fMg, hhv.sq.facts, hhv.sq.at1 [] hm2]
            refine fun _ => ⟨by omega, m_bsl (one_el rfl) ?_⟩
            rintro bb wb hbb hblkb hxb hsb
            have ms := ms.ext hxb
            have hhv := hhvd.ext hxb
            simp only [↓vsd, vsn, gW, qd, qv, ev, pick, argE, zipE, ne_eq, eq_self, forall_const, implies_true, if_true, if_false, reduceIte, reduceCtorEq, Nat.reduceEqDiff, Nat.reduceAdd, Nat.reduceLT, ↓us_sl1Cur_method, r_sl1Cur_method, ms.blk.facts, fMg]
            refine m_app2 ms.own (Sq.one fS_len hblkb rfl) fS_one (by decide) (by simp only [List.length_singleton]; omega) (by decide) ms.room ?_
            rintro yy wc hoc hgc hnc
            have hfar2 : ∀ c, yy.ownBlock = some c → Away hv c := fun c hc => by
              rcases hnc c hc with h1 | h1
              · exact hfar c h1
              · exact hhv.away h1
            have hhv := hhv.off hgc hfar
            have ms := ms.app hoc hgc
            simp only [↓vsd, vsn, gW, qd, qv, ev, pick, argE, zipE, ne_eq, eq_self, forall_const, implies_true, if_true, if_false, reduceIte, reduceCtorEq, Nat.reduceEqDiff, Nat.reduceAdd, Nat.reduceLT, ↓us_sl1Cur_method, r_sl1Cur_method]
            refine m_stM ms ms.own ?_
            rintro wd ms hud
            have hhv := hhv.upd hud (hhv.away' (by omega))
            simp only [↓vsd, vsn, gW, qd, qv, ev, pick, argE, zipE, ne_eq, eq_self, forall_const, implies_true, if_true, if_false, reduceIte, reduceCtorEq, Nat.reduceEqDiff, Nat.reduceAdd, Nat.reduceLT, ↓us_sl1Cur_method, r_sl1Cur_method]
            refine ⟨inR_i64 (by omega), m2, by omega, yy, _, rfl, ms, by omega, by rw [List.length_append, List.length_singleton]; omega, fun c hc => ?_, hhv, hfar2⟩
            rcases List.mem_append.1 hc with hc | hc
            · exact hac c hc
            · rw [List.mem_singleton.1 hc]; exact hall _ (getD_mem [] hm2)
        | succ m =>
          have h0I : 0 < ((m + 1 : Nat) : Int) := by omega
          have h0J : ¬ ((m + 1 : Nat) : Int) ≤ 0 := by omega
          have eI : ((m + 1 : Nat) : Int) - 1 = (m : Nat) := by omega
          simp only [↓vsd, vsn, gW, qd, qv, ev, pick, argE, zipE, ne_eq, eq_self, forall_const, implies_true, if_true, if_false, reduceIte, reduceCtorEq, Nat.reduceEqDiff, Nat.reduceAdd, Nat.reduceLT, ↓us_sl1Cur_method, r_sl1Cur_method, h0I, h0J, ms.blk.facts, fMg]
          refine m_callw (by first | exact .inl rfl | exact .inr rfl) (sl1Cur_change_ok W b _ st (by omega) _ (by omega) ms.cur) ?_
          rintro _ w12 ⟨hc12, hg12, ch, rfl, hch⟩
          have ms := ms.draw hc12 hg12
          simp only [↓vsd, vsn, gW, qd, qv, ev, pick, argE, zipE, ne_eq, eq_self, forall_const, implies_true, if_true, if_false, reduceIte, reduceCtorEq, Nat.reduceEqDiff, Nat.reduceAdd, Nat.reduceLT, ↓us_sl1Cur_method, r_sl1Cur_method]
          refine m_bsl (one_el rfl) ?_
          rintro bb wb hbb hblkb hxb hsb
          have ms := ms.ext hxb
          simp only [↓vsd, vsn, gW, qd, qv, ev, pick, argE, zipE, ne_eq, eq_self, forall_const, implies_true, if_true, if_false, reduceIte, reduceCtorEq, Nat.reduceEqDiff, Nat.reduceAdd, Nat.reduceLT, ↓us_sl1Cur_method, r_sl1Cur_method]
          refine m_app2 ms.own (Sq.one fS_len hblkb rfl) fS_one (by decide) (by simp only [List.length_singleton]; omega) (by decide) ms.room ?_
          rintro yy wc hoc hgc _
          have ms := ms.app hoc hgc
          simp only [↓vsd, vsn, gW, qd, qv, ev, pick, argE, zipE, ne_eq, eq_self, forall_const, implies_true, if_true, if_false, reduceIte, reduceCtorEq, Nat.reduceEqDiff, Nat.reduceAdd, Nat.reduceLT, ↓us_sl1Cur_method, r_sl1Cur_method, eI]
          refine ⟨inR_i64 (by omega), m, by omega, _, _, ⟨rfl, rfl⟩, ms.mono (by rw [List.length_append, List.length_singleton]; omega), by rw [List.length_append, List.length_singleton]; omega, fun c hc => ?_⟩
          rcases List.mem_append.1 hc with hc | hc
          · exact hall c hc
          · rw [List.mem_singleton.1 hc]; exact hch
    · simp only [↓vsd, vsn, gW, qd, qv, ev, pick, argE, zipE, ne_eq, eq_self, forall_const, implies_true, if_true, if_false, reduceIte, reduceCtorEq, Nat.reduceEqDiff, Nat.reduceAdd, Nat.reduceLT, ↓us_sl1Cur_method, r_sl1Cur_method, h4, ms.blk.facts, fMg]
      refine ⟨by decide, fun hodd => ?_, fun heven => ?_⟩
      · refine m_call (sl1Num_dig st (by omega) _) ?_
        rintro _ w9 hx9 rfl
        have ms := ms.ext hx9
        have ms0 := ms
        have hu8 := (UInt8.ofNat (48 + st)).toNat_lt
        simp only [↓vsd, vsn, gW, qd, qv, ev, pick, argE, zipE, ne_eq, eq_self, forall_const, implies_true, if_true, if_false, reduceIte, reduceCtorEq, Nat.reduceEqDiff, Nat.reduceAdd, Nat.reduceLT, ↓us_sl1Cur_method, r_sl1Cur_method]
        refine ⟨by omega, m_call (sl4Hunting_ok st [49, 50, UInt8.ofNat (48 + st)] (by omega) _) ?_⟩
        have hcs : (1 ≤ (huntL st [49, 50, UInt8.ofNat (48 + st)]).length ∧ (huntL st [49, 50, UInt8.ofNat (48 + st)]).length ≤ 40) ∧ ∀ c ∈ huntL st [49, 50, UInt8.ofNat (48 + st)], IsChange st c := ⟨by rw [huntL_len]; omega, hunt_odd st (by omega) (by omega) (by omega) (by omega)⟩
        rintro xx w10 hx10 ho10
        have ms := ms.ext hx10
        simp only [↓vsd, vsn, gW, qd, qv, ev, pick, argE, zipE, ne_eq, eq_self, forall_const, implies_true, if_true, if_false, reduceIte, reduceCtorEq, Nat.reduceEqDiff, Nat.reduceAdd, Nat.reduceLT, ↓us_sl1Cur_method, r_sl1Cur_method]
        refine m_stM ms (ho10.mono (by have := ms0.room; omega)) ?_
        rintro w11 ms _
        simp only [↓vsd, vsn, gW, qd, qv, ev, pick, argE, zipE, ne_eq, eq_self, forall_const, implies_true, if_true, if_false, reduceIte, reduceCtorEq, Nat.reduceEqDiff, Nat.reduceAdd, Nat.reduceLT, ↓us_sl1Cur_method, r_sl1Cur_method, ms.blk.facts, fMg]
        have ms := ms.mono (M := n + 60) (by omega)
        obtain ⟨rc, hrc, hrl⟩ := ms.res
        obtain ⟨a1, a2, a3, rfl⟩ : ∃ a b c, rc = [a, b, c] := by match rc, hrl with | [a, b, c], _ => exact ⟨a, b, c, rfl⟩
        refine m_st hrc rfl (Nat.le_refl 3) (fM_one nm st _ ms.own.sq.one') ?_
        rintro wr hbr hur
        have hbr' : Blk wr b1 (fM nm st xx) 44 := hbr
        have hlo := ms.lo
        simp only [↓vsd, vsn, gW, qd, qv, ev, pick, argE, zipE, ne_eq, eq_self, forall_const, implies_true, if_true, if_false, reduceIte, reduceCtorEq, Nat.reduceEqDiff, Nat.reduceAdd, Nat.reduceLT, ↓us_sl1Cur_method, r_sl1Cur_method, hbr'.facts, fMg]
        exact ⟨ms.cur.keep hur.grown (fun c hc => by have := Option.some.inj hc; omega), grown_new ms.gr hur.grown (fun c hc => by have := Option.some.inj hc; omega), nm, st, xx, _, rfl, (ms.own.upd hur (ms.own.away' (by omega))).mono (by omega), ⟨hword, by omega, hcs.1, hcs.2⟩, by omega⟩
      · have ms0 := ms
        refine m_call (sl4Hunting_ok st [49, 50] (by omega) _) ?_
        have hcs : (1 ≤ (huntL st [49, 50]).length ∧ (huntL st [49, 50]).length ≤ 40) ∧ ∀ c ∈ huntL st [49, 50], IsChange st c := ⟨by rw [huntL_len]; omega, hunt_even st (by omega) (by omega) (by omega) (by omega)⟩
        rintro xx w10 hx10 ho10
        have ms := ms.ext hx10
        simp only [↓vsd, vsn, gW, qd, qv, ev, pick, argE, zipE, ne_eq, eq_self, forall_const, implies_true, if_true, if_false, reduceIte, reduceCtorEq, Nat.reduceEqDiff, Nat.reduceAdd, Nat.reduceLT, ↓us_sl1Cur_method, r_sl1Cur_method]
        refine m_stM ms (ho10.mono (by have := ms0.room; omega)) ?_
        rintro w11 ms _
        simp only [↓vsd, vsn, gW, qd, qv, ev, pick, argE, zipE, ne_eq, eq_self, forall_const, implies_true, if_true, if_false, reduceIte, reduceCtorEq, Nat.reduceEqDiff, Nat.reduceAdd, Nat.reduceLT, ↓us_sl1Cur_method, r_sl1Cur_method, ms.blk.facts, fMg]
        have ms := ms.mono (M := n + 60) (by omega)
        obtain ⟨rc, hrc, hrl⟩ := ms.res
        obtain ⟨a1, a2, a3, rfl⟩ : ∃ a b c, rc = [a, b, c] := by match rc, hrl with | [a, b, c], _ => exact ⟨a, b, c, rfl⟩
        refine m_st hrc rfl (Nat.le_refl 3) (fM_one nm st _ ms.own.sq.one') ?_
        rintro wr hbr hur
        have hbr' : Blk wr b1 (fM nm st xx) 44 := hbr
        have hlo := ms.lo
        simp only [↓vsd, vsn, gW, qd, qv, ev, pick, argE, zipE, ne_eq, eq_self, forall_const, implies_true, if_true, if_false, reduceIte, reduceCtorEq, Nat.reduceEqDiff, Nat.reduceAdd, Nat.reduceLT, ↓us_sl1Cur_method, r_sl1Cur_method, hbr'.facts, fMg]
        exact ⟨ms.cur.keep hur.grown (fun c hc => by have := Option.some.inj hc; omega), grown_new ms.gr hur.grown (fun c hc => by have := Option.some.inj hc; omega), nm, st, xx, _, rfl, (ms.own.upd hur (ms.own.away' (by omega))).mono (by omega), ⟨hword, by omega, hcs.1, hcs.2⟩, by omega⟩
  · skip
    refine m_callw (.inl rfl) (sl1Cur_one_ok W b _ 2 (by omega) _ (by omega) ms.cur) ?_
    rintro _ w9 ⟨hc9, hg9, y9, rfl⟩
    have ms := ms.draw hc9 hg9
    cases y9
    · simp only [↓vsd, vsn, gW, qd, qv, ev, pick, argE, zipE, ne_eq, eq_self, forall_const, implies_true, if_true, if_false, reduceIte, reduceCtorEq, Nat.reduceEqDiff, Nat.reduceAdd, Nat.reduceLT, ↓us_sl1Cur_method, r_sl1Cur_method, ms.blk.facts, fMg]
      refine m_callw (.inl rfl) (sl1Cur_pick_ok W b _ 8 (by omega) _ (by omega) ms.cur) ?_
      rintro _ w10 ⟨hc10, hg10, q, rfl, hq⟩
      have ms := (ms.draw hc10 hg10).mono (M := n + 10) (by omega)
      simp only [↓vsd, vsn, gW, qd, qv, ev, pick, argE, zipE, ne_eq, eq_self, forall_const, implies_true, if_true, if_false, reduceIte, reduceCtorEq, Nat.reduceEqDiff, Nat.reduceAdd, Nat.reduceLT, ↓us_sl1Cur_method, r_sl1Cur_method]
      refine ⟨inR_i64 (by omega), ?_⟩
      refine m_loop (fun m vs w' => ∃ xx cs, vs = [.int .i64 m] ∧ MSd W b (n + 10 + 2 * cs.length) w b1 bm nm st xx xx cs w' ∧ cs.length + m = 1 + q ∧ ∀ c ∈ cs, IsChange st c) (1 + q) ⟨_, [], by first | rfl | (simp; done) | (simp; omega), ms, by simp, by simp⟩ ?_
      rintro m vs w11 ⟨xx, cs, rfl, ms, hml, hall⟩
      cases m with
      | zero =>
        have h0I : ¬ 0 < ((0 : Nat) : Int) := by omega
        simp only [↓vsd, vsn, gW, qd, qv, ev, pick, argE, zipE, ne_eq, eq_self, forall_const, implies_true, if_true, if_false, reduceIte, reduceCtorEq, Nat.reduceEqDiff, Nat.reduceAdd, Nat.reduceLT, ↓us_sl1Cur_method, r_sl1Cur_method, h0I, ms.blk.facts, fMg]
        have hcs : (1 ≤ cs.length ∧ cs.length ≤ 40) ∧ ∀ c ∈ cs, IsChange st c := ⟨by omega, hall⟩
        have ms := ms.mono (M := n + 60) (by omega)
        obtain ⟨rc, hrc, hrl⟩ := ms.res
        obtain ⟨a1, a2, a3, rfl⟩ : ∃ a b c, rc = [a, b, c] := by match rc, hrl with | [a, b, c], _ => exact ⟨a, b, c, rfl⟩
        refine m_st hrc rfl (Nat.le_refl 3) (fM_one nm st _ ms.own.sq.one') ?_
        rintro wr hbr hur
        have hbr' : Blk wr b1 (fM nm st xx) 44 := hbr
        have hlo := ms.lo
        simp only [↓vsd, vsn, gW, qd, qv, ev, pick, argE, zipE, ne_eq, eq_self, forall_const, implies_true, if_true, if_false, reduceIte, reduceCtorEq, Nat.reduceEqDiff, Nat.reduceAdd, Nat.reduceLT, ↓us_sl1Cur_method, r_sl1Cur_method, hbr'.facts, fMg]
        exact ⟨ms.cur.keep hur.grown (fun c hc => by have := Option.some.inj hc; omega), grown_new ms.gr hur.grown (fun c hc => by have := Option.some.inj hc; omega), nm, st, xx, _, rfl, (ms.own.upd hur (ms.own.away' (by omega))).mono (by omega), ⟨hword, by omega, hcs.1, hcs.2⟩, by omega⟩
      | succ m =>
        have h0I : 0 < ((m + 1 : Nat) : Int) := by omega
        have h0J : ¬ ((m + 1 : Nat) : Int) ≤ 0 := by omega
        have eI : ((m + 1 : Nat) : Int) - 1 = (m : Nat) := by omega
        have ms := ms.drew
        simp only [↓vsd, vsn, gW, qd, qv, ev, pick, argE, zipE, ne_eq, eq_self, forall_const, implies_true, if_true, if_false, reduceIte, reduceCtorEq, Nat.reduceEqDiff, Nat.reduceAdd, Nat.reduceLT, ↓us_sl1Cur_method, r_sl1Cur_method, h0I, h0J, ms.blk.facts, fMg]
        refine ⟨?_, ?_⟩
        · refine m_callw (.inr rfl) (sl1Cur_change_ok W b _ st (by omega) _ (by omega) ms.cur) ?_
          rintro _ w12 ⟨hc12, hg12, ch, rfl, hch⟩
          have ms := ms.draw hc12 hg12
          simp only [↓vsd, vsn, gW, qd, qv, ev, pick, argE, zipE, ne_eq, eq_self, forall_const, implies_true, if_true, if_false, reduceIte, reduceCtorEq, Nat.reduceEqDiff, Nat.reduceAdd, Nat.reduceLT, ↓us_sl1Cur_method, r_sl1Cur_method]
          refine m_bsl (one_el rfl) ?_
          rintro bb wb hbb hblkb hxb hsb
          have ms := ms.ext (by first | exact hxb | exact ud hxb)
          simp only [↓vsd, vsn, gW, qd, qv, ev, pick, argE, zipE, ne_eq, eq_self, forall_const, implies_true, if_true, if_false, reduceIte, reduceCtorEq, Nat.reduceEqDiff, Nat.reduceAdd, Nat.reduceLT, ↓us_sl1Cur_method, r_sl1Cur_method, ms.blk.facts, fMg]
          refine m_app2 ms.own (Sq.one fS_len hblkb rfl) fS_one (by decide) (by simp only [List.length_singleton]; omega) (by decide) ms.room ?_
          rintro yy wc hoc hgc _
          have ms := ms.app hoc hgc
          simp only [↓vsd, vsn, gW, qd, qv, ev, pick, argE, zipE, ne_eq, eq_self, forall_const, implies_true, if_true, if_false, reduceIte, reduceCtorEq, Nat.reduceEqDiff, Nat.reduceAdd, Nat.reduceLT, ↓us_sl1Cur_method, r_sl1Cur_method]
          refine m_stM ms ms.own ?_
          rintro wd ms _
          simp only [↓vsd, vsn, gW, qd, qv, ev, pick, argE, zipE, ne_eq, eq_self, forall_const, implies_true, if_true, if_false, reduceIte, reduceCtorEq, Nat.reduceEqDiff, Nat.reduceAdd, Nat.reduceLT, ↓us_sl1Cur_method, r_sl1Cur_method, eI]
          refine ⟨inR_i64 (by omega), m, by omega, _, _, rfl, ms.mono (by rw [List.length_append, List.length_singleton]; omega), by rw [List.length_append, List.length_singleton]; omega, fun c hc => ?_⟩
          rcases List.mem_append.1 hc with hc | hc
          · exact hall c hc
          · rw [List.mem_singleton.1 hc]; exact hch
        · refine m_callw (.inr rfl) (sl1Cur_change_ok W b _ st (by omega) _ (by omega) ms.cur) ?_
          rintro _ w12 ⟨hc12, hg12, ch, rfl, hch⟩
          have ms := ms.draw hc12 hg12
          simp only [↓vsd, vsn, gW, qd, qv, ev, pick, argE, zipE, ne_eq, eq_self, forall_const, implies_true, if_true, if_false, reduceIte, reduceCtorEq, Nat.reduceEqDiff, Nat.reduceAdd, Nat.reduceLT, ↓us_sl1Cur_method, r_sl1Cur_method, ms.blk.facts, fMg]
          refine ⟨?_, ?_⟩
          · skip
            refine m_bsl (one_el rfl) ?_
            rintro bb wb hbb hblkb hxb hsb
            have ms := ms.ext (by first | exact hxb | exact ud hxb)
            simp only [↓vsd, vsn, gW, qd, qv, ev, pick, argE, zipE, ne_eq, eq_self, forall_const, implies_true, if_true, if_false, reduceIte, reduceCtorEq, Nat.reduceEqDiff, Nat.reduceAdd, Nat.reduceLT, ↓us_sl1Cur_method, r_sl1Cur_method, ms.blk.facts, fMg]
            refine m_app2 ms.own (Sq.one fS_len hblkb rfl) fS_one (by decide) (by simp only [List.length_singleton]; omega) (by decide) ms.room ?_
            rintro yy wc hoc hgc _
            have ms := ms.app hoc hgc
            simp only [↓vsd, vsn, gW, qd, qv, ev, pick, argE, zipE, ne_eq, eq_self, forall_const, implies_true, if_true, if_false, reduceIte, reduceCtorEq, Nat.reduceEqDiff, Nat.reduceAdd, Nat.reduceLT, ↓us_sl1Cur_method, r_sl1Cur_method]
            refine m_stM ms ms.own ?_
            rintro wd ms _
            simp only [↓vsd, vsn, gW, qd, qv, ev, pick, argE, zipE, ne_eq, eq_self, forall_const, implies_true, if_true, if_false, reduceIte, reduceCtorEq, Nat.reduceEqDiff, Nat.reduceAdd, Nat.reduceLT, ↓us_sl1Cur_method, r_sl1Cur_method, eI]
            refine ⟨inR_i64 (by omega), m, by omega, _, _, rfl, ms.mono (by rw [List.length_append, List.length_singleton]; omega), by rw [List.length_append, List.length_singleton]; omega, fun c hc => ?_⟩
            rcases List.mem_append.1 hc with hc | hc
            · exact hall c hc
            · rw [List.mem_singleton.1 hc]; exact hch
          · skip
            refine m_bsl (one_el rfl) ?_
            rintro bb wb hbb hblkb hxb hsb
            have ms := ms.ext (by first | exact hxb | exact ud hxb)
            simp only [↓vsd, vsn, gW, qd, qv, ev, pick, argE, zipE, ne_eq, eq_self, forall_const, implies_true, if_true, if_false, reduceIte, reduceCtorEq, Nat.reduceEqDiff, Nat.reduceAdd, Nat.reduceLT, ↓us_sl1Cur_method, r_sl1Cur_method, ms.blk.facts, fMg]
            refine m_app2 ms.own (Sq.one fS_len hblkb rfl) fS_one (by decide) (by simp only [List.length_singleton]; omega) (by decide) ms.room ?_
            rintro yy wc hoc hgc _
            have ms := ms.app hoc hgc
            simp only [↓vsd, vsn, gW, qd, qv, ev, pick, argE, zipE, ne_eq, eq_self, forall_const, implies_true, if_true, if_false, reduceIte, reduceCtorEq, Nat.reduceEqDiff, Nat.reduceAdd, Nat.reduceLT, ↓us_sl1Cur_method, r_sl1Cur_method]
            refine m_stM ms ms.own ?_
            rintro wd ms _
            simp only [↓vsd, vsn, gW, qd, qv, ev, pick, argE, zipE, ne_eq, eq_self, forall_const, implies_true, if_true, if_false, reduceIte, reduceCtorEq, Nat.reduceEqDiff, Nat.reduceAdd, Nat.reduceLT, ↓us_sl1Cur_method, r_sl1Cur_method, eI]
            refine ⟨inR_i64 (by omega), m, by omega, _, _, rfl, ms.mono (by rw [List.length_append, List.length_singleton]; omega), by rw [List.length_append, List.length_singleton]; omega, fun c hc => ?_⟩
            rcases List.mem_append.1 hc with hc | hc
            · exact hall c hc
            · rw [List.mem_singleton.1 hc]; exact hch
    · simp only [↓vsd, vsn, gW, qd, qv, ev, pick, argE, zipE, ne_eq, eq_self, forall_const, implies_true, if_true, if_false, reduceIte, reduceCtorEq, Nat.reduceEqDiff, Nat.reduceAdd, Nat.reduceLT, ↓us_sl1Cur_method, r_sl1Cur_method, ms.blk.facts, fMg]
      refine m_callw (.inl rfl) (sl1Cur_pick_ok W b _ 4 (by omega) _ (by omega) ms.cur) ?_
      rintro _ w10 ⟨hc10, hg10, q, rfl, hq⟩
      have ms := (ms.draw hc10 hg10).mono (M := n + 10) (by omega)
      simp only [↓vsd, vsn, gW, qd, qv, ev, pick, argE, zipE, ne_eq, eq_self, forall_const, implies_true, if_true, if_false, reduceIte, reduceCtorEq, Nat.reduceEqDiff, Nat.reduceAdd, Nat.reduceLT, ↓us_sl1Cur_method, r_sl1Cur_method]
      refine ⟨inR_i64 (by omega), ?_⟩
      refine m_loop (fun m vs w' => ∃ hv hl, vs = [hv, .int .i64 m] ∧ MSd W b (n + 10 + 2 * hl.length) w b1 bm nm st (.slice none 0 0) hv hl w' ∧ hl.length + m = 1 + q ∧ ∀ c ∈ hl, IsChange st c) (1 + q) ⟨_, [], by first | rfl | (simp; done) | (simp; omega), ms, by simp, by simp⟩ ?_
      rintro m vs w11 ⟨hv, hl, rfl, ms, hml, hall⟩
      cases m with
      | zero =>
        have h0I : ¬ 0 < ((0 : Nat) : Int) := by omega
        have ms := ms.mono (M := n + 20) (by omega)
        simp only [↓vsd, vsn, gW, qd, qv, ev, pick, argE, zipE, ne_eq, eq_self, forall_const, implies_true, if_true, if_false, reduceIte, reduceCtorEq, Nat.reduceEqDiff, Nat.reduceAdd, Nat.reduceLT, ↓us_sl1Cur_method, r_sl1Cur_method, h0I, ms.blk.facts, fMg]
        have hhv := ms.own
        refine m_call (sl1OwnS_ok hv hl (by omega) _ ms.own.sq) ?_
        rintro o12 w12 hx12 ho12
        have hmr := ms.room
        have hx12 : Ext w11 w12 := by first | exact hx12 | exact ud hx12
        have hhv := hhv.ext hx12
        have hfar : ∀ c, o12.ownBlock = some c → Away hv c := fun c hc => ms.own.away (by have := (ho12.bound c hc).1; exact this)
        have ms := (ms.ext hx12).new (ho12.mono (by exact hmr))
        simp only [↓vsd, vsn, gW, qd, qv, ev, pick, argE, zipE, ne_eq, eq_self, forall_const, implies_true, if_true, if_false, reduceIte, reduceCtorEq, Nat.reduceEqDiff, Nat.reduceAdd, Nat.reduceLT, ↓us_sl1Cur_method, r_sl1Cur_method]
        refine m_callw (by first | exact .inl rfl | exact .inr rfl) (sl1Cur_change_ok W b _ st (by omega) _ (by omega) ms.cur) ?_
        rintro _ w13 ⟨hc13, hg13, ch, rfl, hch⟩
        have hlo := ms.lo
        have hhv := hhv.keep hg13 (fun c hc => by have := Option.some.inj hc; omega)
        have ms := ms.draw hc13 hg13
        simp only [↓vsd, vsn, gW, qd, qv, ev, pick, argE, zipE, ne_eq, eq_self, forall_const, implies_true, if_true, if_false, reduceIte, reduceCtorEq, Nat.reduceEqDiff, Nat.reduceAdd, Nat.reduceLT, ↓us_sl1Cur_method, r_sl1Cur_method]
        refine m_bsl (one_el rfl) ?_
        rintro bb wb hbb hblkb hxb hsb
        have ms := ms.ext (by first | exact hxb | exact ud hxb)
        have hhv := hhv.ext (by first | exact hxb | exact ud hxb)
        simp only [↓vsd, vsn, gW, qd, qv, ev, pick, argE, zipE, ne_eq, eq_self, forall_const, implies_true, if_true, if_false, reduceIte, reduceCtorEq, Nat.reduceEqDiff, Nat.reduceAdd, Nat.reduceLT, ↓us_sl1Cur_method, r_sl1Cur_method, ms.blk.facts, fMg]
        refine m_app2 ms.own (Sq.one fS_len hblkb rfl) fS_one (by decide) (by simp only [List.length_singleton]; omega) (by decide) ms.room ?_
        rintro yy wc hoc hgc hnc
        have hfar2 : ∀ c, yy.ownBlock = some c → Away hv c := fun c hc => by
          rcases hnc c hc with h1 | h1
          · exact hfar c h1
          · exact hhv.away h1
        have hhv := hhv.off hgc hfar
        have ms := ms.app hoc hgc
        simp only [↓vsd, vsn, gW, qd, qv, ev, pick, argE, zipE, ne_eq, eq_self, forall_const, implies_true, if_true, if_false, reduceIte, reduceCtorEq, Nat.reduceEqDiff, Nat.reduceAdd, Nat.reduceLT, ↓us_sl1Cur_method, r_sl1Cur_method]
        refine m_stM ms ms.own ?_
        rintro wd ms hud
        have hhv := hhv.upd hud (hhv.away' (by omega))
        have eL : (hl.length : Int) - 1 = ((hl.length : Nat) : Int) - 1 := rfl
        simp only [↓vsd, vsn, gW, qd, qv, ev, pick, argE, zipE, ne_eq, eq_self, forall_const, implies_true, if_true, if_false, reduceIte, reduceCtorEq, Nat.reduceEqDiff, Nat.reduceAdd, Nat.reduceLT, ↓us_sl1Cur_method, r_sl1Cur_method, hhv.sq.facts]
        refine ⟨inR_i64 (by omega), ?_⟩
        refine m_loop (fun m vs w' => ∃ xx cc, vs = [.int .i64 ((m : Int) - 1)] ∧ MSd W b (n + 22) w b1 bm nm st xx xx cc w' ∧ m ≤ hl.length ∧ cc.length + m = 2 * hl.length + 1 ∧ (∀ c ∈ cc, IsChange st c) ∧ Own fS 1 9 (bm + 1) w' hv hl ∧ ∀ c, xx.ownBlock = some c → Away hv c) hl.length ⟨yy, _, by first | rfl | (simp; done) | (simp; omega), ms, Nat.le_refl _, by rw [List.length_append, List.length_singleton]; omega, fun c hc => by
          rcases List.mem_append.1 hc with hc | hc
          · exact hall c hc
          · rw [List.mem_singleton.1 hc]; exact hch, hhv, hfar2⟩ ?_
        rintro m2 vs w14 ⟨xx, cc, rfl, ms, hml2, hcl2, hac, hhv, hfar⟩
        cases m2 with
        | zero =>
          have h0I : ¬ 0 ≤ ((0 : Nat) : Int) - 1 := by omega
          have ms := ms.drew
          simp only [↓vsd, vsn, gW, qd, qv, ev, pick, argE, zipE, ne_eq, eq_self, forall_const, implies_true, if_true, if_false, reduceIte, reduceCtorEq, Nat.reduceEqDiff, Nat.reduceAdd, Nat.reduceLT, ↓us_sl1Cur_method, r_sl1Cur_method, h0I, ms.blk.facts, fMg]
          refine ⟨?_, ?_⟩
          · refine m_callw (.inr rfl) (sl1Cur_change_ok W b _ st (by omega) _ (by omega) ms.cur) ?_
            rintro _ w15 ⟨hc15, hg15, ch2, rfl, hch2⟩
            have ms := ms.draw hc15 hg15
            simp only [↓vsd, vsn, gW, qd, qv, ev, pick, argE, zipE, ne_eq, eq_self, forall_const, implies_true, if_true, if_false, reduceIte, reduceCtorEq, Nat.reduceEqDiff, Nat.reduceAdd, Nat.reduceLT, ↓us_sl1Cur_method, r_sl1Cur_method]
            refine m_bsl (one_el rfl) ?_
            rintro bb wb hbb hblkb hxb hsb
            have ms := ms.ext (by first | exact hxb | exact ud hxb)
            simp only [↓vsd, vsn, gW, qd, qv, ev, pick, argE, zipE, ne_eq, eq_self, forall_const, implies_true, if_true, if_false, reduceIte, reduceCtorEq, Nat.reduceEqDiff, Nat.reduceAdd, Nat.reduceLT, ↓us_sl1Cur_method, r_sl1Cur_method, ms.blk.facts, fMg]
            refine m_app2 ms.own (Sq.one fS_len hblkb rfl) fS_one (by decide) (by simp only [List.length_singleton]; omega) (by decide) ms.room ?_
            rintro yy wc hoc hgc _
            have ms := ms.app hoc hgc
            simp only [↓vsd, vsn, gW, qd, qv, ev, pick, argE, zipE, ne_eq, eq_self, forall_const, implies_true, if_true, if_false, reduceIte, reduceCtorEq, Nat.reduceEqDiff, Nat.reduceAdd, Nat.reduceLT, ↓us_sl1Cur_method, r_sl1Cur_method]
            refine m_stM ms ms.own ?_
            rintro wd ms _
            have hcs : (1 ≤ (cc ++ [ch2]).length ∧ (cc ++ [ch2]).length ≤ 40) ∧ ∀ c ∈ cc ++ [ch2], IsChange st c := ⟨by rw [List.length_append, List.length_singleton]; omega, fun c hc => by
              rcases List.mem_append.1 hc with hc | hc
              · exact hac c hc
              · rw [List.mem_singleton.1 hc]; exact hch2⟩
            obtain ⟨xx, hxx⟩ : ∃ xx, yy = xx := ⟨_, rfl⟩
            subst hxx
            simp only [↓vsd, vsn, gW, qd, qv, ev, pick, argE, zipE, ne_eq, eq_self, forall_const, implies_true, if_true, if_false, reduceIte, reduceCtorEq, Nat.reduceEqDiff, Nat.reduceAdd, Nat.reduceLT, ↓us_sl1Cur_method, r_sl1Cur_method, ms.blk.facts, fMg]
            have ms := ms.mono (M := n + 60) (by omega)
            obtain ⟨rc, hrc, hrl⟩ := ms.res
            obtain ⟨a1, a2, a3, rfl⟩ : ∃ a b c, rc = [a, b, c] := by match rc, hrl with | [a, b, c], _ => exact ⟨a, b, c, rfl⟩
            refine m_st hrc rfl (Nat.le_refl 3) (fM_one nm st _ ms.own.sq.one') ?_
            rintro wr hbr hur
            have hbr' : Blk wr b1 (fM nm st yy) 44 := hbr
            have hlo := ms.lo
            simp only [↓vsd, vsn, gW, qd, qv, ev, pick, argE, zipE, ne_eq, eq_self, forall_const, implies_true, if_true, if_false, reduceIte, reduceCtorEq, Nat.reduceEqDiff, Nat.reduceAdd, Nat.reduceLT, ↓us_sl1Cur_method, r_sl1Cur_method, hbr'.facts, fMg]
            exact ⟨ms.cur.keep hur.grown (fun c hc => by have := Option.some.inj hc; omega), grown_new ms.gr hur.grown (fun c hc => by have := Option.some.inj hc; omega), nm, st, yy, _, rfl, (ms.own.upd hur (ms.own.away' (by omega))).mono (by omega), ⟨hword, by omega, hcs.1, hcs.2⟩, by omega⟩
          · refine m_callw (.inr rfl) (sl1Cur_change_ok W b _ st (by omega) _ (by omega) ms.cur) ?_
            rintro _ w15 ⟨hc15, hg15, ch2, rfl, hch2⟩
            have ms := ms.draw hc15 hg15
            simp only [↓vsd, vsn, gW, qd, qv, ev, pick, argE, zipE, ne_eq, eq_self, forall_const, implies_true, if_true, if_false, reduceIte, reduceCtorEq, Nat.reduceEqDiff, Nat.reduceAdd, Nat.reduceLT, ↓us_sl1Cur_method, r_sl1Cur_method, ms.blk.facts, fMg]
            refine ⟨?_, ?_⟩
            · skip
              refine m_bsl (one_el rfl) ?_
              rintro bb wb hbb hblkb hxb hsb
              have ms := ms.ext (by first | exact hxb | exact ud hxb)
              simp only [↓vsd, vsn, gW, qd, qv, ev, pick, argE, zipE, ne_eq, eq_self, forall_const, implies_true, if_true, if_false, reduceIte, reduceCtorEq, Nat.reduceEqDiff, Nat.reduceAdd, Nat.reduceLT, ↓us_sl1Cur_method, r_sl1Cur_method, ms.blk.facts, fMg]
              refine m_app2 ms.own (Sq.one fS_len hblkb rfl) fS_one (by decide) (by simp only [List.length_singleton]; omega) (by decide) ms.room ?_
              rintro yy wc hoc hgc _
              have ms := ms.app hoc hgc
              simp only [↓vsd, vsn, gW, qd, qv, ev, pick, argE, zipE, ne_eq, eq_self, forall_const, implies_true, if_true, if_false, reduceIte, reduceCtorEq, Nat.reduceEqDiff, Nat.reduceAdd, Nat.reduceLT, ↓us_sl1Cur_method, r_sl1Cur_method]
              refine m_stM ms ms.own ?_
              rintro wd ms _
              have hcs : (1 ≤ (cc ++ [ch2]).length ∧ (cc ++ [ch2]).length ≤ 40) ∧ ∀ c ∈ cc ++ [ch2], IsChange st c := ⟨by rw [List.length_append, List.length_singleton]; omega, fun c hc => by
                rcases List.mem_append.1 hc with hc | hc
                · exact hac c hc
                · rw [List.mem_singleton.1 hc]; exact hch2⟩
              obtain ⟨xx, hxx⟩ : ∃ xx, yy = xx := ⟨_, rfl⟩
              subst hxx
              simp only [↓vsd, vsn, gW, qd, qv, ev, pick, argE, zipE, ne_eq, eq_self, forall_const, implies_true, if_true, if_false, reduceIte, reduceCtorEq, Nat.reduceEqDiff, Nat.reduceAdd, Nat.reduceLT, ↓us_sl1Cur_method, r_sl1Cur_method, ms.blk.facts, fMg]
              have ms := ms.mono (M := n + 60) (by omega)
              obtain ⟨rc, hrc, hrl⟩ := ms.res
              obtain ⟨a1, a2, a3, rfl⟩ : ∃ a b c, rc = [a, b, c] := by match rc, hrl with | [a, b, c], _ => exact ⟨a, b, c, rfl⟩
              refine m_st hrc rfl (Nat.le_refl 3) (fM_one nm st _ ms.own.sq.one') ?_
              rintro wr hbr hur
              have hbr' : Blk wr b1 (fM nm st yy) 44 := hbr
              have hlo := ms.lo
              simp only [↓vsd, vsn, gW, qd, qv, ev, pick, argE, zipE, ne_eq, eq_self, forall_const, implies_true, if_true, if_false, reduceIte, reduceCtorEq, Nat.reduceEqDiff, Nat.reduceAdd, Nat.reduceLT, ↓us_sl1Cur_method, r_sl1Cur_method, hbr'.facts, fMg]
              exact ⟨ms.cur.keep hur.grown (fun c hc => by have := Option.some.inj hc; omega), grown_new ms.gr hur.grown (fun c hc => by have := Option.some.inj hc; omega), nm, st, yy, _, rfl, (ms.own.upd hur (ms.own.away' (by omega))).mono (by omega), ⟨hword, by omega, hcs.1, hcs.2⟩, by omega⟩
            · skip
              refine m_bsl (one_el rfl) ?_
              rintro bb wb hbb hblkb hxb hsb
              have ms := ms.ext (by first | exact hxb | exact ud hxb)
              simp only [↓vsd, vsn, gW, qd, qv, ev, pick, argE, zipE, ne_eq, eq_self, forall_const, implies_true, if_true, if_false, reduceIte, reduceCtorEq, Nat.reduceEqDiff, Nat.reduceAdd, Nat.reduceLT, ↓us_sl1Cur_method, r_sl1Cur_method, ms.blk.facts, fMg]
              refine m_app2 ms.own (Sq.one fS_len hblkb rfl) fS_one (by decide) (by simp only [List.length_singleton]; omega) (by decide) ms.room ?_
              rintro yy wc hoc hgc _
              have ms := ms.app hoc hgc
              simp only [↓vsd, vsn, gW, qd, qv, ev, pick, argE, zipE, ne_eq, eq_self, forall_const, implies_true, if_true, if_false, reduceIte, reduceCtorEq, Nat.reduceEqDiff, Nat.reduceAdd, Nat.reduceLT, ↓us_sl1Cur_method, r_sl1Cur_method]
              refine m_stM ms ms.own ?_
              rintro wd ms _
              have hcs : (1 ≤ (cc ++ [ch2]).length ∧ (cc ++ [ch2]).length ≤ 40) ∧ ∀ c ∈ cc ++ [ch2], IsChange st c := ⟨by rw [List.length_append, List.length_singleton]; omega, fun c hc => by
                rcases List.mem_append.1 hc with hc | hc
                · exact hac c hc
                · rw [List.mem_singleton.1 hc]; exact hch2⟩
              obtain ⟨xx, hxx⟩ : ∃ xx, yy = xx := ⟨_, rfl⟩
              subst hxx
              simp only [↓vsd, vsn, gW, qd, qv, ev, pick, argE, zipE, ne_eq, eq_self, forall_const, implies_true, if_true, if_false, reduceIte, reduceCtorEq, Nat.reduceEqDiff, Nat.reduceAdd, Nat.reduceLT, ↓us_sl1Cur_method, r_sl1Cur_method, ms.blk.facts, fMg]
              have ms := ms.mono (M := n + 60) (by omega)
              obtain ⟨rc, hrc, hrl⟩ := ms.res
              obtain ⟨a1, a2, a3, rfl⟩ : ∃ a b c, rc = [a, b, c] := by match rc, hrl with | [a, b, c], _ => exact ⟨a, b, c, rfl⟩
              refine m_st hrc rfl (Nat.le_refl 3) (fM_one nm st _ ms.own.sq.one') ?_
              rintro wr hbr hur
              have hbr' : Blk wr b1 (fM nm st yy) 44 := hbr
              have hlo := ms.lo
              simp only [↓vsd, vsn, gW, qd, qv, ev, pick, argE, zipE, ne_eq, eq_self, forall_const, implies_true, if_true, if_false, reduceIte, reduceCtorEq, Nat.reduceEqDiff, Nat.reduceAdd, Nat.reduceLT, ↓us_sl1Cur_method, r_sl1Cur_method, hbr'.facts, fMg]
              exact ⟨ms.cur.keep hur.grown (fun c hc => by have := Option.some.inj hc; omega), grown_new ms.gr hur.grown (fun c hc => by have := Option.some.inj hc; omega), nm, st, yy, _, rfl, (ms.own.upd hur (ms.own.away' (by omega))).mono (by omega), ⟨hword, by omega, hcs.1, hcs.2⟩, by omega⟩
        | succ m2 =>
          have h0I : 0 ≤ ((m2 + 1 : Nat) : Int) - 1 := by omega
          have h0J : ¬ ((m2 + 1 : Nat) : Int) - 1 < 0 := by omega
          have eI : ((m2 + 1 : Nat) : Int) - 1 = (m2 : Nat) := by omega
          have hm2 : m2 < hl.length := by omega
          have ms := ms.drew
          have hhvd : Own fS 1 9 (bm + 1) w14.drew hv hl := hhv.ext (dr (Ext.refl _))
          have hmI : ¬ (m2 : Int) < 0 := by omega
          simp only [↓vsd, vsn, gW, qd, qv, ev, pick, argE, zipE, ne_eq, eq_self, forall_const, implies_true, if_true, if_false, reduceIte, reduceCtorEq, Nat.reduceEqDiff, Nat.reduceAdd, Nat.reduceLT, ↓us_sl1Cur_method, r_sl1Cur_method, h0I, h0J, eI, hmI, ms.blk.facts, fMg, hhv.sq.facts, hhv.sq.at1 [] hm2]
          refine fun _ => ⟨by omega, m_bsl (one_el rfl) ?_⟩
          rintro bb wb hbb hblkb hxb hsb
          have ms := ms.ext hxb
          have hhv := hhvd.ext hxb
          simp only [↓vsd, vsn, gW, qd, qv, ev, pick, argE, zipE, ne_eq, eq_self, forall_const, implies_true, if_true, if_false, reduceIte, reduceCtorEq, Nat.reduceEqDiff, Nat.reduceAdd, Nat.reduceLT, ↓us_sl1Cur_method, r_sl1Cur_method, ms.blk.facts, fMg]
          refine m_app2 ms.own (Sq.one fS_len hblkb rfl) fS_one (by decide) (by simp only [List.length_singleton]; omega) (by decide) ms.room ?_
          rintro yy wc hoc hgc hnc
          have hfar2 : ∀ c, yy.ownBlock = some c → Away hv c := fun c hc => by
            rcases hnc c hc with h1 | h1
            · exact hfar c h1
            · exact hhv.away h1
          have hhv := hhv.off hgc hfar
          have ms := ms.app hoc hgc
          simp only [↓vsd, vsn, gW, qd, qv, ev, pick, argE, zipE, ne_eq, eq_self, forall_const, implies_true, if_true, if_false, reduceIte, reduceCtorEq, Nat.reduceEqDiff, Nat.reduceAdd, Nat.reduceLT, ↓us_sl1Cur_method, r_sl1Cur_method]
          refine m_stM ms ms.own ?_
          rintro wd ms hud
          have hhv := hhv.upd hud (hhv.away' (by omega))
          simp only [↓vsd, vsn, gW, qd, qv, ev, pick, argE, zipE, ne_eq, eq_self, forall_const, implies_true, if_true, if_false, reduceIte, reduceCtorEq, Nat.reduceEqDiff, Nat.reduceAdd, Nat.reduceLT, ↓us_sl1Cur_method, r_sl1Cur_method]
          refine ⟨inR_i64 (by omega), m2, by omega, yy, _, rfl, ms, by omega, by rw [List.length_append, List.length_singleton]; omega, fun c hc => ?_, hhv, hfar2⟩
          rcases List.mem_append.1 hc with hc | hc
          · exact hac c hc
          · rw [List.mem_singleton.1 hc]; exact hall _ (getD_mem [] hm2)
      | succ m =>
        have h0I : 0 < ((m + 1 : Nat) : Int) := by omega
        have h0J : ¬ ((m + 1 : Nat) : Int) ≤ 0 := by omega
        have eI : ((m + 1 : Nat) : Int) - 1 = (m : Nat) := by omega
        simp only [↓vsd, vsn, gW, qd, qv, ev, pick, argE, zipE, ne_eq, eq_self, forall_const, implies_true, if_true, if_false, reduceIte, reduceCtorEq, Nat.reduceEqDiff, Nat.reduceAdd, Nat.reduceLT, ↓us_sl1Cur_method, r_sl1Cur_method, h0I, h0J, ms.blk.facts, fMg]
        refine m_callw (by first | exact .inl rfl | exact .inr rfl) (sl1Cur_change_ok W b _ st (by omega) _ (by omega) ms.cur) ?_
        rintro _ w12 ⟨hc12, hg12, ch, rfl, hch⟩
        have ms := ms.draw hc12 hg12
        simp only [↓vsd, vsn, gW, qd, qv, ev, pick, argE, zipE, ne_eq, eq_self, forall_const, implies_true, if_true, if_false, reduceIte, reduceCtorEq, Nat.reduceEqDiff, Nat.reduceAdd, Nat.reduceLT, ↓us_sl1Cur_method, r_sl1Cur_method]
        refine m_bsl (one_el rfl) ?_
        rintro bb wb hbb hblkb hxb hsb
        have ms := ms.ext hxb
        simp only [↓vsd, vsn, gW, qd, qv, ev, pick, argE, zipE, ne_eq, eq_self, forall_const, implies_true, if_true, if_false, reduceIte, reduceCtorEq, Nat.reduceEqDiff, Nat.reduceAdd, Nat.reduceLT, ↓us_sl1Cur_method, r_sl1Cur_method]
        refine m_app2 ms.own (Sq.one fS_len hblkb rfl) fS_one (by decide) (by simp only [List.length_singleton]; omega) (by decide) ms.room ?_
        rintro yy wc hoc hgc _
        have ms := ms.app hoc hgc
        simp only [↓vsd, vsn, gW, qd, qv, ev, pick, argE, zipE, ne_eq, eq_self, forall_const, implies_true, if_true, if_false, reduceIte, reduceCtorEq, Nat.reduceEqDiff, Nat.reduceAdd, Nat.reduceLT, ↓us_sl1Cur_method, r_sl1Cur_method, eI]
        refine ⟨inR_i64 (by omega), m, by omega, _, _, ⟨rfl, rfl⟩, ms.mono (by rw [List.length_append, List.length_singleton]; omega), by rw [List.length_append, List.length_singleton]; omega, fun c hc => ?_⟩
        rcases List.mem_append.1 hc with hc | hc
        · exact hall c hc
        · rw [List.mem_singleton.1 hc]; exact hch
end Go.Proofs.Ytfklonhjgkahdaa
