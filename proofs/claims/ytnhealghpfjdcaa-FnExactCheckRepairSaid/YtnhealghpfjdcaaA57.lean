/-
  The layers of rows behind a row: one step, of both sides.
  Conditions: none.
-/
import Derived.Test.YtnhealghpfjdcaaA53
import Derived.Test.YtnhealghpfjdcaaVu
import Derived.Test.YtnhealghpfjdcaaPv
import Derived.Test.YtnhealghpfjdcaaD1
import Derived.Test.YtnhealghpfjdcaaA17
set_option linter.unusedSimpArgs false
set_option linter.unusedVariables false
set_option linter.defProp false
namespace Go.Proofs.Ytnhealghpfjdcaa
open Go Go.RowKit
section
variable (P : Program) (k : KT) (e : Env) (w : World)
abbrev b89_1 : X := (.reg [0, 2, 7, 9, 14, 15, 16, 20, 21, 22] (.c (.q 35 [] (.mv (.t 7))) (.c (.q 36 [] (.mv (.t 12))) (.c (.e (some 37) [] (.bsl 9 1 [(.t 36)])) (.c (.e (some 38) [] (.app 22 9 1 16 [(S [])] 22 (.t 35) (.t 37))) (.c (.q 7 [] (.mv (.t 38))) .nil))))))
def t89_1 := b89_1
theorem u89_1 : vcK P t89_1 k e w = vcK P b89_1 k e w := rfl
abbrev b89_2 : X := (.cond (.t 32) (.seq (.reg [0, 2, 7, 9, 12, 14, 15, 16, 20, 21, 22] (.c (.q 33 [] (.mv (.t 2))) (.c (.q 34 [] (.mv (.t 12))) (.c (.e none [] (.mup false .string (.t 33) (.t 34) (.c (.bool true)))) .nil)))) t89_1) .skip)
def t89_2 := b89_2
theorem u89_2 : vcK P t89_2 k e w = vcK P b89_2 k e w := rfl
abbrev b89_3 : X := (.seq (.reg [0, 2, 7, 9, 12, 14, 15, 16, 20, 21, 22, 32] (.c (.q 29 [] (.mv (.t 2))) (.c (.q 30 [] (.mv (.t 12))) (.c (.q 31 [] (.mlk false .string (.bool false) (.t 29) (.t 30))) (.c (.q 32 [] (.not (.t 31))) .nil))))) t89_2)
def t89_3 := b89_3
theorem u89_3 : vcK P t89_3 k e w = vcK P b89_3 k e w := rfl
abbrev b89_4 : X := (.seq (.reg [0, 2, 7, 9, 12, 14, 15, 16, 20, 21, 22] (.c (.q 26 [] (.mv (.t 9))) (.c (.q 27 [] (.mv (.t 11))) (.c (.e (some 28) [] (.call false 75 [(.t 26), (.t 27)])) (.c (.q 12 [] (.mv (.t 28))) .nil))))) t89_3)
def t89_4 := b89_4
theorem u89_4 : vcK P t89_4 k e w = vcK P b89_4 k e w := rfl
abbrev b89_5 : X := (.reg [0, 2, 7, 9, 14, 15, 16, 20, 21, 22] (.c (.q 39 [] (.bin .add (.t 22) (.c (.int .i64 1)))) (.c (.q 22 [] (.mv (.t 39))) .nil)))
def t89_5 := b89_5
theorem u89_5 : vcK P t89_5 k e w = vcK P b89_5 k e w := rfl
abbrev b89_6 : X := (.seq (.blk 3 (.seq (.reg [0, 2, 7, 9, 11, 14, 15, 16, 20, 21, 22] (.c (.q 24 [] (.ia 1 (.t 20) (.t 22))) (.c (.q 25 [] (.ld (.t 24))) (.c (.q 11 [] (.mv (.t 25))) .nil)))) t89_4)) t89_5)
def t89_6 := b89_6
theorem u89_6 : vcK P t89_6 k e w = vcK P b89_6 k e w := rfl
abbrev b89_7 : X := (.seq (.cond (.t 23) .skip (.exit 2)) t89_6)
def t89_7 := b89_7
theorem u89_7 : vcK P t89_7 k e w = vcK P b89_7 k e w := rfl
abbrev b89_8 : X := (.seq (.reg [0, 2, 7, 9, 14, 15, 16, 20, 21, 22, 23] (.c (.q 23 [] (.bin .lss (.t 22) (.t 21))) .nil)) t89_7)
def t89_8 := b89_8
theorem u89_8 : vcK P t89_8 k e w = vcK P b89_8 k e w := rfl
abbrev b89_9 : X := (.blk 2 (.loop [7, 22] [0, 2, 9, 14, 15, 16, 20, 21] t89_8))
def t89_9 := b89_9
theorem u89_9 : vcK P t89_9 k e w = vcK P b89_9 k e w := rfl
abbrev b89_10 : X := (.seq (.reg [0, 2, 7, 9, 14, 15, 16, 20, 21, 22] (.c (.q 20 [] (.mv (.t 0))) (.c (.q 21 [] (.lens (.t 20))) (.c (.q 22 [] (.mv (.c (.int .i64 0)))) .nil)))) t89_9)
def t89_10 := b89_10
theorem u89_10 : vcK P t89_10 k e w = vcK P b89_10 k e w := rfl
abbrev b89_11 : X := (.reg [0, 2, 7, 14, 15, 16] (.c (.q 40 [] (.bin .add (.t 16) (.c (.int .i64 1)))) (.c (.q 16 [] (.mv (.t 40))) .nil)))
def t89_11 := b89_11
theorem u89_11 : vcK P t89_11 k e w = vcK P b89_11 k e w := rfl
abbrev b89_12 : X := (.seq (.blk 1 (.seq (.reg [0, 2, 7, 9, 14, 15, 16] (.c (.q 18 [] (.ia 1 (.t 14) (.t 16))) (.c (.q 19 [] (.ld (.t 18))) (.c (.q 9 [] (.mv (.t 19))) .nil)))) t89_10)) t89_11)
def t89_12 := b89_12
theorem u89_12 : vcK P t89_12 k e w = vcK P b89_12 k e w := rfl
abbrev b89_13 : X := (.seq (.cond (.t 17) .skip (.exit 0)) t89_12)
def t89_13 := b89_13
theorem u89_13 : vcK P t89_13 k e w = vcK P b89_13 k e w := rfl
abbrev b89_14 : X := (.seq (.reg [0, 2, 7, 14, 15, 16, 17] (.c (.q 17 [] (.bin .lss (.t 16) (.t 15))) .nil)) t89_13)
def t89_14 := b89_14
theorem u89_14 : vcK P t89_14 k e w = vcK P b89_14 k e w := rfl
abbrev b89_15 : X := (.blk 0 (.loop [7, 16] [0, 2, 14, 15] t89_14))
def t89_15 := b89_15
theorem u89_15 : vcK P t89_15 k e w = vcK P b89_15 k e w := rfl
abbrev b89_16 : X := (.seq (.reg [6] (.c (.q 43 [] (.mv (.t 7))) (.c (.q 6 [] (.mv (.t 43))) .nil))) .ret)
def t89_16 := b89_16
theorem u89_16 : vcK P t89_16 k e w = vcK P b89_16 k e w := rfl
abbrev b89_17 : X := (.seq (.reg [7] (.c (.q 41 [] (.mv (.t 7))) (.c (.e (some 42) [] (.call true 143 [(.t 41)])) .nil))) t89_16)
def t89_17 := b89_17
theorem u89_17 : vcK P t89_17 k e w = vcK P b89_17 k e w := rfl
abbrev b89_18 : X := (.seq (.seq (.reg [0, 2, 7, 14, 15, 16] (.c (.q 14 [] (.mv (.t 1))) (.c (.q 15 [] (.lens (.t 14))) (.c (.q 16 [] (.mv (.c (.int .i64 0)))) .nil)))) t89_15) t89_17)
def t89_18 := b89_18
theorem u89_18 : vcK P t89_18 k e w = vcK P b89_18 k e w := rfl
abbrev b89_19 : X := (.seq (.reg [0, 1, 2, 7] (.c (.e (some 13) [] (.bsl 9 1 [])) (.c (.q 7 [] (.mv (.t 13))) .nil))) t89_18)
def t89_19 := b89_19
theorem u89_19 : vcK P t89_19 k e w = vcK P b89_19 k e w := rfl
abbrev b89_0 : X := (.seq (.reg [0, 1, 2] (.c (.q 6 [] (.mv (.c (.slice none 0 0)))) .nil)) t89_19)
def x_inextLayer := b89_0
theorem u89_0 : vcK P x_inextLayer k e w = vcK P b89_0 k e w := rfl
def r_inextLayer : List XO := [(.mv (.t 6))]
theorem c_inextLayer : convF Try.prog [89, 116, 117, 121, 143, 161, 162, 163, 166, 168, 234] Try.f89 [([0, 1, 2], []), ([0, 1, 2, 7], []), ([0, 2, 7, 14, 15, 16], []), ([7, 16], [0, 2, 14, 15]), ([0, 2, 7, 14, 15, 16, 17], []), ([0, 2, 7, 9, 14, 15, 16], []), ([0, 2, 7, 9, 14, 15, 16, 20, 21, 22], []), ([7, 22], [0, 2, 9, 14, 15, 16, 20, 21]), ([0, 2, 7, 9, 14, 15, 16, 20, 21, 22, 23], []), ([0, 2, 7, 9, 11, 14, 15, 16, 20, 21, 22], []), ([0, 2, 7, 9, 12, 14, 15, 16, 20, 21, 22], []), ([0, 2, 7, 9, 12, 14, 15, 16, 20, 21, 22, 32], []), ([0, 2, 7, 9, 12, 14, 15, 16, 20, 21, 22], []), ([0, 2, 7, 9, 14, 15, 16, 20, 21, 22], []), ([0, 2, 7, 9, 14, 15, 16, 20, 21, 22], []), ([0, 2, 7, 14, 15, 16], []), ([7], []), ([6], [])] = some (x_inextLayer, r_inextLayer) := by kernel_rfl
def us_inextLayer := aI @u89_0 (aI @u89_1 (aI @u89_2 (aI @u89_3 (aI @u89_4 (aI @u89_5 (aI @u89_6 (aI @u89_7 (aI @u89_8 (aI @u89_9 (aI @u89_10 (aI @u89_11 (aI @u89_12 (aI @u89_13 (aI @u89_14 (aI @u89_15 (aI @u89_16 (aI @u89_17 (aI @u89_18 @u89_19))))))))))))))))))
abbrev b131_1 : X := (.reg [3, 6, 7, 8] (.c (.q 12 [] (.mv (.t 3))) (.c (.q 13 [] (.mv (.t 5))) (.c (.q 14 [] (.lens (.t 13))) (.c (.q 15 [] (.bin .add (.t 12) (.t 14))) (.c (.q 3 [] (.mv (.t 15))) .nil))))))
def t131_1 := b131_1
theorem u131_1 : vcK P t131_1 k e w = vcK P b131_1 k e w := rfl
abbrev b131_2 : X := (.reg [3, 6, 7, 8] (.c (.q 16 [] (.bin .add (.t 8) (.c (.int .i64 1)))) (.c (.q 8 [] (.mv (.t 16))) .nil)))
def t131_2 := b131_2
theorem u131_2 : vcK P t131_2 k e w = vcK P b131_2 k e w := rfl
abbrev b131_3 : X := (.seq (.blk 1 (.seq (.reg [3, 5, 6, 7, 8] (.c (.q 10 [] (.ia 1 (.t 6) (.t 8))) (.c (.q 11 [] (.ld (.t 10))) (.c (.q 5 [] (.mv (.t 11))) .nil)))) t131_1)) t131_2)
def t131_3 := b131_3
theorem u131_3 : vcK P t131_3 k e w = vcK P b131_3 k e w := rfl
abbrev b131_4 : X := (.seq (.cond (.t 9) .skip (.exit 0)) t131_3)
def t131_4 := b131_4
theorem u131_4 : vcK P t131_4 k e w = vcK P b131_4 k e w := rfl
abbrev b131_5 : X := (.seq (.reg [3, 6, 7, 8, 9] (.c (.q 9 [] (.bin .lss (.t 8) (.t 7))) .nil)) t131_4)
def t131_5 := b131_5
theorem u131_5 : vcK P t131_5 k e w = vcK P b131_5 k e w := rfl
abbrev b131_6 : X := (.blk 0 (.loop [3, 8] [6, 7] t131_5))
def t131_6 := b131_6
theorem u131_6 : vcK P t131_6 k e w = vcK P b131_6 k e w := rfl
abbrev b131_7 : X := (.seq (.reg [2] (.c (.q 17 [] (.mv (.t 3))) (.c (.q 2 [] (.mv (.t 17))) .nil))) .ret)
def t131_7 := b131_7
theorem u131_7 : vcK P t131_7 k e w = vcK P b131_7 k e w := rfl
abbrev b131_8 : X := (.seq (.seq (.reg [3, 6, 7, 8] (.c (.q 6 [] (.mv (.t 0))) (.c (.q 7 [] (.lens (.t 6))) (.c (.q 8 [] (.mv (.c (.int .i64 0)))) .nil)))) t131_6) t131_7)
def t131_8 := b131_8
theorem u131_8 : vcK P t131_8 k e w = vcK P b131_8 k e w := rfl
abbrev b131_9 : X := (.seq (.reg [0, 3] (.c (.q 3 [] (.mv (.c (.int .i64 0)))) .nil)) t131_8)
def t131_9 := b131_9
theorem u131_9 : vcK P t131_9 k e w = vcK P b131_9 k e w := rfl
abbrev b131_0 : X := (.seq (.reg [0] (.c (.q 2 [] (.mv (.c (.int .i64 0)))) .nil)) t131_9)
def x_sl15Many := b131_0
theorem u131_0 : vcK P x_sl15Many k e w = vcK P b131_0 k e w := rfl
def r_sl15Many : List XO := [(.mv (.t 2))]
theorem c_sl15Many : convF Try.prog [89, 116, 117, 121, 143, 161, 162, 163, 166, 168, 234] Try.f131 [([0], []), ([0, 3], []), ([3, 6, 7, 8], []), ([3, 8], [6, 7]), ([3, 6, 7, 8, 9], []), ([3, 5, 6, 7, 8], []), ([3, 6, 7, 8], []), ([3, 6, 7, 8], []), ([2], [])] = some (x_sl15Many, r_sl15Many) := by kernel_rfl
def us_sl15Many := aI @u131_0 (aI @u131_1 (aI @u131_2 (aI @u131_3 (aI @u131_4 (aI @u131_5 (aI @u131_6 (aI @u131_7 (aI @u131_8 @u131_9))))))))
abbrev b85_1 : X := (.reg [2, 3, 4, 7, 9, 23, 24, 25, 29, 30, 31] (.c (.q 35 [] (.mv (.t 7))) (.c (.q 36 [] (.mv (.t 9))) (.c (.q 37 [] (.lda 3 (.t 3))) (.c (.q 38 [] (.lda 2 (.t 4))) (.c (.q 39 [] (.mv (.t 11))) (.c (.e (some 40) [] (.call false 132 [(.t 37), (.t 38), (.t 39)])) (.c (.e (some 41) [] (.call false 82 [(.t 36), (.t 40)])) (.c (.e (some 42) [] (.bsl 9 1 [(.t 41)])) (.c (.e (some 43) [] (.app 22 9 1 16 [(S [])] 22 (.t 35) (.t 42))) (.c (.q 7 [] (.mv (.t 43))) .nil)))))))))))
def t85_1 := b85_1
theorem u85_1 : vcK P t85_1 k e w = vcK P b85_1 k e w := rfl
abbrev b85_2 : X := (.reg [2, 3, 4, 7, 9, 23, 24, 25, 29, 30, 31] (.c (.q 44 [] (.bin .add (.t 31) (.c (.int .i64 1)))) (.c (.q 31 [] (.mv (.t 44))) .nil)))
def t85_2 := b85_2
theorem u85_2 : vcK P t85_2 k e w = vcK P b85_2 k e w := rfl
abbrev b85_3 : X := (.seq (.blk 3 (.seq (.reg [2, 3, 4, 7, 9, 11, 23, 24, 25, 29, 30, 31] (.c (.q 33 [] (.ia 1 (.t 29) (.t 31))) (.c (.q 34 [] (.ld (.t 33))) (.c (.q 11 [] (.mv (.t 34))) .nil)))) t85_1)) t85_2)
def t85_3 := b85_3
theorem u85_3 : vcK P t85_3 k e w = vcK P b85_3 k e w := rfl
abbrev b85_4 : X := (.seq (.cond (.t 32) .skip (.exit 2)) t85_3)
def t85_4 := b85_4
theorem u85_4 : vcK P t85_4 k e w = vcK P b85_4 k e w := rfl
abbrev b85_5 : X := (.seq (.reg [2, 3, 4, 7, 9, 23, 24, 25, 29, 30, 31, 32] (.c (.q 32 [] (.bin .lss (.t 31) (.t 30))) .nil)) t85_4)
def t85_5 := b85_5
theorem u85_5 : vcK P t85_5 k e w = vcK P b85_5 k e w := rfl
abbrev b85_6 : X := (.blk 2 (.loop [7, 31] [2, 3, 4, 9, 23, 24, 25, 29, 30] t85_5))
def t85_6 := b85_6
theorem u85_6 : vcK P t85_6 k e w = vcK P b85_6 k e w := rfl
abbrev b85_7 : X := (.seq (.reg [2, 3, 4, 7, 9, 23, 24, 25, 29, 30, 31] (.c (.e (some 29) [] (.bsl 9 1 [(.s [112]), (.s [98]), (.s [115])])) (.c (.q 30 [] (.lens (.t 29))) (.c (.q 31 [] (.mv (.c (.int .i64 0)))) .nil)))) t85_6)
def t85_7 := b85_7
theorem u85_7 : vcK P t85_7 k e w = vcK P b85_7 k e w := rfl
abbrev b85_8 : X := (.reg [2, 3, 4, 7, 23, 24, 25] (.c (.q 45 [] (.bin .add (.t 25) (.c (.int .i64 1)))) (.c (.q 25 [] (.mv (.t 45))) .nil)))
def t85_8 := b85_8
theorem u85_8 : vcK P t85_8 k e w = vcK P b85_8 k e w := rfl
abbrev b85_9 : X := (.seq (.blk 1 (.seq (.reg [2, 3, 4, 7, 9, 23, 24, 25] (.c (.q 27 [] (.ia 1 (.t 23) (.t 25))) (.c (.q 28 [] (.ld (.t 27))) (.c (.q 9 [] (.mv (.t 28))) .nil)))) t85_7)) t85_8)
def t85_9 := b85_9
theorem u85_9 : vcK P t85_9 k e w = vcK P b85_9 k e w := rfl
abbrev b85_10 : X := (.seq (.cond (.t 26) .skip (.exit 0)) t85_9)
def t85_10 := b85_10
theorem u85_10 : vcK P t85_10 k e w = vcK P b85_10 k e w := rfl
abbrev b85_11 : X := (.seq (.reg [2, 3, 4, 7, 23, 24, 25, 26] (.c (.q 26 [] (.bin .lss (.t 25) (.t 24))) .nil)) t85_10)
def t85_11 := b85_11
theorem u85_11 : vcK P t85_11 k e w = vcK P b85_11 k e w := rfl
abbrev b85_12 : X := (.blk 0 (.loop [7, 25] [2, 3, 4, 23, 24] t85_11))
def t85_12 := b85_12
theorem u85_12 : vcK P t85_12 k e w = vcK P b85_12 k e w := rfl
abbrev b85_13 : X := (.reg [2, 12, 14, 15, 47, 48, 49, 66, 67, 68] (.c (.q 72 [] (.mv (.t 15))) (.c (.q 73 [] (.mv (.t 72))) (.c (.q 74 [(73, false)] (.mv (.t 17))) (.c (.q 75 [(73, false)] (.mv (.t 14))) (.c (.e (some 76) [(73, false)] (.call false 86 [(.t 74), (.t 75)])) (.c (.q 77 [] (.pick (.t 73) (.c (.bool true)) (.t 76))) (.c (.q 15 [] (.mv (.t 77))) .nil))))))))
def t85_13 := b85_13
theorem u85_13 : vcK P t85_13 k e w = vcK P b85_13 k e w := rfl
abbrev b85_14 : X := (.reg [2, 12, 14, 15, 47, 48, 49, 66, 67, 68] (.c (.q 78 [] (.bin .add (.t 68) (.c (.int .i64 1)))) (.c (.q 68 [] (.mv (.t 78))) .nil)))
def t85_14 := b85_14
theorem u85_14 : vcK P t85_14 k e w = vcK P b85_14 k e w := rfl
abbrev b85_15 : X := (.seq (.blk 7 (.seq (.reg [2, 12, 14, 15, 17, 47, 48, 49, 66, 67, 68] (.c (.q 70 [] (.ia 1 (.t 66) (.t 68))) (.c (.q 71 [] (.ld (.t 70))) (.c (.q 17 [] (.mv (.t 71))) .nil)))) t85_13)) t85_14)
def t85_15 := b85_15
theorem u85_15 : vcK P t85_15 k e w = vcK P b85_15 k e w := rfl
abbrev b85_16 : X := (.seq (.cond (.t 69) .skip (.exit 6)) t85_15)
def t85_16 := b85_16
theorem u85_16 : vcK P t85_16 k e w = vcK P b85_16 k e w := rfl
abbrev b85_17 : X := (.seq (.reg [2, 12, 14, 15, 47, 48, 49, 66, 67, 68, 69] (.c (.q 69 [] (.bin .lss (.t 68) (.t 67))) .nil)) t85_16)
def t85_17 := b85_17
theorem u85_17 : vcK P t85_17 k e w = vcK P b85_17 k e w := rfl
abbrev b85_18 : X := (.blk 6 (.loop [15, 68] [2, 12, 14, 47, 48, 49, 66, 67] t85_17))
def t85_18 := b85_18
theorem u85_18 : vcK P t85_18 k e w = vcK P b85_18 k e w := rfl
abbrev b85_19 : X := (.cond (.t 80) (.reg [2, 12, 47, 48, 49] (.c (.q 81 [] (.mv (.t 12))) (.c (.q 82 [] (.mv (.t 14))) (.c (.e (some 83) [] (.bsl 9 1 [(.t 82)])) (.c (.e (some 84) [] (.app 22 9 1 16 [(S [])] 22 (.t 81) (.t 83))) (.c (.q 12 [] (.mv (.t 84))) .nil)))))) .skip)
def t85_19 := b85_19
theorem u85_19 : vcK P t85_19 k e w = vcK P b85_19 k e w := rfl
abbrev b85_20 : X := (.seq (.reg [2, 12, 14, 47, 48, 49, 80] (.c (.q 79 [] (.mv (.t 15))) (.c (.q 80 [] (.not (.t 79))) .nil))) t85_19)
def t85_20 := b85_20
theorem u85_20 : vcK P t85_20 k e w = vcK P b85_20 k e w := rfl
abbrev b85_21 : X := (.seq (.seq (.reg [2, 12, 14, 15, 47, 48, 49, 66, 67, 68] (.c (.q 66 [] (.mv (.t 2))) (.c (.q 67 [] (.lens (.t 66))) (.c (.q 68 [] (.mv (.c (.int .i64 0)))) .nil)))) t85_18) t85_20)
def t85_21 := b85_21
theorem u85_21 : vcK P t85_21 k e w = vcK P b85_21 k e w := rfl
abbrev b85_22 : X := (.seq (.reg [2, 12, 14, 15, 47, 48, 49] (.c (.q 53 [] (.mv (.t 12))) (.c (.q 54 [] (.lens (.t 53))) (.c (.q 55 [] (.bin .gtr (.t 54) (.c (.int .i64 0)))) (.c (.q 56 [] (.mv (.t 55))) (.c (.q 57 [(56, true)] (.mv (.t 12))) (.c (.q 58 [(56, true)] (.mv (.t 12))) (.c (.q 59 [(56, true)] (.lens (.t 58))) (.c (.q 60 [(56, true)] (.bin .sub (.t 59) (.c (.int .i64 1)))) (.c (.q 61 [(56, true)] (.ia 1 (.t 57) (.t 60))) (.c (.q 62 [(56, true)] (.ld (.t 61))) (.c (.q 63 [(56, true)] (.mv (.t 14))) (.c (.q 64 [(56, true)] (.bin .eql (.t 62) (.t 63))) (.c (.q 65 [] (.pick (.t 56) (.t 64) (.c (.bool false)))) (.c (.q 15 [] (.mv (.t 65))) .nil))))))))))))))) t85_21)
def t85_22 := b85_22
theorem u85_22 : vcK P t85_22 k e w = vcK P b85_22 k e w := rfl
abbrev b85_23 : X := (.reg [2, 12, 47, 48, 49] (.c (.q 85 [] (.bin .add (.t 49) (.c (.int .i64 1)))) (.c (.q 49 [] (.mv (.t 85))) .nil)))
def t85_23 := b85_23
theorem u85_23 : vcK P t85_23 k e w = vcK P b85_23 k e w := rfl
abbrev b85_24 : X := (.seq (.blk 5 (.seq (.reg [2, 12, 14, 47, 48, 49] (.c (.q 51 [] (.ia 1 (.t 47) (.t 49))) (.c (.q 52 [] (.ld (.t 51))) (.c (.q 14 [] (.mv (.t 52))) .nil)))) t85_22)) t85_23)
def t85_24 := b85_24
theorem u85_24 : vcK P t85_24 k e w = vcK P b85_24 k e w := rfl
abbrev b85_25 : X := (.seq (.cond (.t 50) .skip (.exit 4)) t85_24)
def t85_25 := b85_25
theorem u85_25 : vcK P t85_25 k e w = vcK P b85_25 k e w := rfl
abbrev b85_26 : X := (.seq (.reg [2, 12, 47, 48, 49, 50] (.c (.q 50 [] (.bin .lss (.t 49) (.t 48))) .nil)) t85_25)
def t85_26 := b85_26
theorem u85_26 : vcK P t85_26 k e w = vcK P b85_26 k e w := rfl
abbrev b85_27 : X := (.blk 4 (.loop [12, 49] [2, 47, 48] t85_26))
def t85_27 := b85_27
theorem u85_27 : vcK P t85_27 k e w = vcK P b85_27 k e w := rfl
abbrev b85_28 : X := (.seq (.reg [6] (.c (.q 86 [] (.mv (.t 12))) (.c (.q 6 [] (.mv (.t 86))) .nil))) .ret)
def t85_28 := b85_28
theorem u85_28 : vcK P t85_28 k e w = vcK P b85_28 k e w := rfl
abbrev b85_29 : X := (.seq (.seq (.reg [2, 12, 47, 48, 49] (.c (.q 46 [] (.mv (.t 7))) (.c (.e (some 47) [] (.call false 140 [(.t 46)])) (.c (.q 48 [] (.lens (.t 47))) (.c (.q 49 [] (.mv (.c (.int .i64 0)))) .nil))))) t85_27) t85_28)
def t85_29 := b85_29
theorem u85_29 : vcK P t85_29 k e w = vcK P b85_29 k e w := rfl
abbrev b85_30 : X := (.seq (.reg [2, 7, 12] (.c (.q 12 [] (.mv (.c (.slice none 0 0)))) .nil)) t85_29)
def t85_30 := b85_30
theorem u85_30 : vcK P t85_30 k e w = vcK P b85_30 k e w := rfl
abbrev b85_31 : X := (.seq (.seq (.reg [2, 3, 4, 7, 23, 24, 25] (.c (.q 18 [] (.mv (.t 2))) (.c (.q 19 [] (.mv (.t 2))) (.c (.q 20 [] (.lens (.t 19))) (.c (.q 21 [] (.bin .sub (.t 20) (.c (.int .i64 1)))) (.c (.q 22 [] (.ia 1 (.t 18) (.t 21))) (.c (.q 23 [] (.ld (.t 22))) (.c (.q 24 [] (.lens (.t 23))) (.c (.q 25 [] (.mv (.c (.int .i64 0)))) .nil))))))))) t85_12) t85_30)
def t85_31 := b85_31
theorem u85_31 : vcK P t85_31 k e w = vcK P b85_31 k e w := rfl
abbrev b85_32 : X := (.seq (.reg [2, 3, 4, 7] (.c (.q 7 [] (.mv (.c (.slice none 0 0)))) .nil)) t85_31)
def t85_32 := b85_32
theorem u85_32 : vcK P t85_32 k e w = vcK P b85_32 k e w := rfl
abbrev b85_0 : X := (.seq (.reg [2, 3, 4] (.c (.e (some 3) [] (.box 31 (.t 0))) (.c (.e (some 4) [] (.box 33 (.t 1))) (.c (.q 6 [] (.mv (.c (.slice none 0 0)))) .nil)))) t85_32)
def x_sl15Next := b85_0
theorem u85_0 : vcK P x_sl15Next k e w = vcK P b85_0 k e w := rfl
def r_sl15Next : List XO := [(.mv (.t 6))]
theorem c_sl15Next : convF Try.prog [89, 116, 117, 121, 143, 161, 162, 163, 166, 168, 234] Try.f85 [([2, 3, 4], []), ([2, 3, 4, 7], []), ([2, 3, 4, 7, 23, 24, 25], []), ([7, 25], [2, 3, 4, 23, 24]), ([2, 3, 4, 7, 23, 24, 25, 26], []), ([2, 3, 4, 7, 9, 23, 24, 25], []), ([2, 3, 4, 7, 9, 23, 24, 25, 29, 30, 31], []), ([7, 31], [2, 3, 4, 9, 23, 24, 25, 29, 30]), ([2, 3, 4, 7, 9, 23, 24, 25, 29, 30, 31, 32], []), ([2, 3, 4, 7, 9, 11, 23, 24, 25, 29, 30, 31], []), ([2, 3, 4, 7, 9, 23, 24, 25, 29, 30, 31], []), ([2, 3, 4, 7, 9, 23, 24, 25, 29, 30, 31], []), ([2, 3, 4, 7, 23, 24, 25], []), ([2, 7, 12], []), ([2, 12, 47, 48, 49], []), ([12, 49], [2, 47, 48]), ([2, 12, 47, 48, 49, 50], []), ([2, 12, 14, 47, 48, 49], []), ([2, 12, 14, 15, 47, 48, 49], []), ([2, 12, 14, 15, 47, 48, 49, 66, 67, 68], []), ([15, 68], [2, 12, 14, 47, 48, 49, 66, 67]), ([2, 12, 14, 15, 47, 48, 49, 66, 67, 68, 69], []), ([2, 12, 14, 15, 17, 47, 48, 49, 66, 67, 68], []), ([2, 12, 14, 15, 47, 48, 49, 66, 67, 68], []), ([2, 12, 14, 15, 47, 48, 49, 66, 67, 68], []), ([2, 12, 14, 47, 48, 49, 80], []), ([2, 12, 47, 48, 49], []), ([2, 12, 47, 48, 49], []), ([6], [])] = some (x_sl15Next, r_sl15Next) := by kernel_rfl
def us_sl15Next := aI @u85_0 (aI @u85_1 (aI @u85_2 (aI @u85_3 (aI @u85_4 (aI @u85_5 (aI @u85_6 (aI @u85_7 (aI @u85_8 (aI @u85_9 (aI @u85_10 (aI @u85_11 (aI @u85_12 (aI @u85_13 (aI @u85_14 (aI @u85_15 (aI @u85_16 (aI @u85_17 (aI @u85_18 (aI @u85_19 (aI @u85_20 (aI @u85_21 (aI @u85_22 (aI @u85_23 (aI @u85_24 (aI @u85_25 (aI @u85_26 (aI @u85_27 (aI @u85_28 (aI @u85_29 (aI @u85_30 (aI @u85_31 @u85_32)))))))))))))))))))))))))))))))
abbrev b86_1 : X := (.cond (.t 15) (.seq (.reg [4] (.c (.q 4 [] (.mv (.c (.bool true)))) .nil)) .ret) .skip)
def t86_1 := b86_1
theorem u86_1 : vcK P t86_1 k e w = vcK P b86_1 k e w := rfl
abbrev b86_2 : X := (.seq (.reg [1, 7, 8, 9, 15] (.c (.q 13 [] (.mv (.t 6))) (.c (.q 14 [] (.mv (.t 1))) (.c (.q 15 [] (.bin .eql (.t 13) (.t 14))) .nil)))) t86_1)
def t86_2 := b86_2
theorem u86_2 : vcK P t86_2 k e w = vcK P b86_2 k e w := rfl
abbrev b86_3 : X := (.reg [1, 7, 8, 9] (.c (.q 16 [] (.bin .add (.t 9) (.c (.int .i64 1)))) (.c (.q 9 [] (.mv (.t 16))) .nil)))
def t86_3 := b86_3
theorem u86_3 : vcK P t86_3 k e w = vcK P b86_3 k e w := rfl
abbrev b86_4 : X := (.seq (.blk 1 (.seq (.reg [1, 6, 7, 8, 9] (.c (.q 11 [] (.ia 1 (.t 7) (.t 9))) (.c (.q 12 [] (.ld (.t 11))) (.c (.q 6 [] (.mv (.t 12))) .nil)))) t86_2)) t86_3)
def t86_4 := b86_4
theorem u86_4 : vcK P t86_4 k e w = vcK P b86_4 k e w := rfl
abbrev b86_5 : X := (.seq (.cond (.t 10) .skip (.exit 0)) t86_4)
def t86_5 := b86_5
theorem u86_5 : vcK P t86_5 k e w = vcK P b86_5 k e w := rfl
abbrev b86_6 : X := (.seq (.reg [1, 7, 8, 9, 10] (.c (.q 10 [] (.bin .lss (.t 9) (.t 8))) .nil)) t86_5)
def t86_6 := b86_6
theorem u86_6 : vcK P t86_6 k e w = vcK P b86_6 k e w := rfl
abbrev b86_7 : X := (.blk 0 (.loop [9] [1, 7, 8] t86_6))
def t86_7 := b86_7
theorem u86_7 : vcK P t86_7 k e w = vcK P b86_7 k e w := rfl
abbrev b86_8 : X := (.seq (.reg [4] (.c (.q 4 [] (.mv (.c (.bool false)))) .nil)) .ret)
def t86_8 := b86_8
theorem u86_8 : vcK P t86_8 k e w = vcK P b86_8 k e w := rfl
abbrev b86_9 : X := (.seq (.seq (.reg [1, 7, 8, 9] (.c (.q 7 [] (.mv (.t 0))) (.c (.q 8 [] (.lens (.t 7))) (.c (.q 9 [] (.mv (.c (.int .i64 0)))) .nil)))) t86_7) t86_8)
def t86_9 := b86_9
theorem u86_9 : vcK P t86_9 k e w = vcK P b86_9 k e w := rfl
abbrev b86_0 : X := (.seq (.reg [0, 1] (.c (.q 4 [] (.mv (.c (.bool false)))) .nil)) t86_9)
def x_sl1HasS := b86_0
theorem u86_0 : vcK P x_sl1HasS k e w = vcK P b86_0 k e w := rfl
def r_sl1HasS : List XO := [(.mv (.t 4))]
theorem c_sl1HasS : convF Try.prog [89, 116, 117, 121, 143, 161, 162, 163, 166, 168, 234] Try.f86 [([0, 1], []), ([1, 7, 8, 9], []), ([9], [1, 7, 8]), ([1, 7, 8, 9, 10], []), ([1, 6, 7, 8, 9], []), ([1, 7, 8, 9, 15], []), ([4], []), ([1, 7, 8, 9], []), ([4], [])] = some (x_sl1HasS, r_sl1HasS) := by kernel_rfl
def us_sl1HasS := aI @u86_0 (aI @u86_1 (aI @u86_2 (aI @u86_3 (aI @u86_4 (aI @u86_5 (aI @u86_6 (aI @u86_7 (aI @u86_8 @u86_9))))))))
end

theorem layNx_congr {S S2 : List Bs} (h : ∀ x, x ∈ S ↔ x ∈ S2) (hs layer : List Bs) : layNx S hs layer = layNx S2 hs layer := by
  refine rise_uniq (layNx_rise _ _ _) (layNx_rise _ _ _) fun x => ?_
  rw [layNx_mem, layNx_mem, h]
theorem sl1HasS_ok (v : Value) (l : List Bs) (s : Bs) (hl : l.length ≤ 1000000000) (w : World) (h : Sq fS 1 w v l) : Fn 86 [v, S s] w (fun r _ => r = .bool (decide (s ∈ l))) := by
  (refine callsV_of mix Try.func86 c_sl1HasS ?_; simp only [↓vsd, vsn, gW, qd, qv, ev, pick, argE, zipE, ne_eq, eq_self, forall_const, implies_true, if_true, if_false, reduceIte, reduceCtorEq, Nat.reduceEqDiff, Nat.reduceAdd, Nat.reduceLT, ↓us_sl1HasS, r_sl1HasS])
  simp only [↓vsd, vsn, gW, qd, qv, ev, pick, argE, zipE, ne_eq, eq_self, forall_const, implies_true, if_true, if_false, reduceIte, reduceCtorEq, Nat.reduceEqDiff, Nat.reduceAdd, Nat.reduceLT, ↓us_sl1HasS, r_sl1HasS, h.facts]
  refine m_upto l.length (fun k vs w' => vs = [.int .i64 k] ∧ (∀ x ∈ l.take k, x ≠ s) ∧ Ext w w') ⟨rfl, by simp, Ext.refl _⟩ ?_
  rintro k vs w1 hk ⟨rfl, hno, hx1⟩
  have hq := h.ext hx1
  by_cases hlt : k < l.length
  · have hltI : (k : Int) < l.length := by omega
    have hltJ : ¬ (l.length : Int) ≤ k := by omega
    have a1 := hq.at1 [] hlt
    have hmem := getD_mem [] hlt
    simp only [↓vsd, vsn, gW, qd, qv, ev, pick, argE, zipE, ne_eq, eq_self, forall_const, implies_true, if_true, if_false, reduceIte, reduceCtorEq, Nat.reduceEqDiff, Nat.reduceAdd, Nat.reduceLT, ↓us_sl1HasS, r_sl1HasS, hltI, hltJ, hq.facts, a1]
    refine ⟨by omega, fun he => ⟨hx1, ?_⟩, fun he => ⟨inR_i64 (by omega), UpTo.next hlt ⟨rfl, fun x hx => ?_, by first | exact hx1 | exact dr hx1⟩⟩⟩
    · exact (decide_eq_true (he ▸ hmem)).symm
    · rw [List.take_add_one, List.getElem?_eq_getElem hlt] at hx
      rcases List.mem_append.1 hx with h1 | h1
      · exact hno x h1
      · rw [List.getD_eq_getElem?_getD, List.getElem?_eq_getElem hlt] at he
        simp only [Option.toList_some, List.mem_singleton, Option.getD_some] at h1 he
        rw [h1]; exact he
  · obtain rfl : k = l.length := by omega
    have hltI : ¬ (l.length : Int) < l.length := by omega
    rw [List.take_length] at hno
    simp only [↓vsd, vsn, gW, qd, qv, ev, pick, argE, zipE, ne_eq, eq_self, forall_const, implies_true, if_true, if_false, reduceIte, reduceCtorEq, Nat.reduceEqDiff, Nat.reduceAdd, Nat.reduceLT, ↓us_sl1HasS, r_sl1HasS, hltI]
    exact ⟨hx1, (decide_eq_false fun hm => hno s hm rfl).symm⟩
/-- Rows out of which the layers are made. -/
def RowsN (n : Nat) (l : List Bs) : Prop := ∀ x ∈ l, IsRow x ∧ x.length = n
theorem inextLayer_ok (n : Nat) (v u : Value) (hs layer S : List Bs) (m : Nat) (hhs : RowsN n hs) (hly : RowsN n layer) (hl : hs.length ≤ 3 ∧ layer.length ≤ 10000) (w : World) (h : Sq fS 1 w v hs) (h' : Sq fS 1 w u layer) (hm : SetAt w m S) :
    CallsV Try.prog 89 [v, u, .map (some m)] w (fun r w' => Own fS 1 9 w.heap.size w' r (layNx S hs layer) ∧ (∃ S', SetAt w' m S' ∧ ∀ x, x ∈ S' ↔ x ∈ S ∨ x ∈ layNx S hs layer) ∧ w.grownBy w' (some m)) := by
  (refine callsV_of mix Try.func89 c_inextLayer ?_; simp only [↓vsd, vsn, gW, qd, qv, ev, pick, argE, zipE, ne_eq, eq_self, forall_const, implies_true, if_true, if_false, reduceIte, reduceCtorEq, Nat.reduceEqDiff, Nat.reduceAdd, Nat.reduceLT, ↓us_inextLayer, r_inextLayer])
  refine m_bsl (by simp) ?_
  rintro b1 w1 hb1 hblk1 hx1 hs1
  have hq1 := h'.ext hx1
  simp only [↓vsd, vsn, gW, qd, qv, ev, pick, argE, zipE, ne_eq, eq_self, forall_const, implies_true, if_true, if_false, reduceIte, reduceCtorEq, Nat.reduceEqDiff, Nat.reduceAdd, Nat.reduceLT, ↓us_inextLayer, r_inextLayer, hq1.facts]
  have hmw := hm.lt
  refine m_upto layer.length (fun i vs w' => ∃ x S', vs = [x, .int .i64 i] ∧ Own fS 1 9 w.heap.size w' x (newL S (stepsL hs (layer.take i))) ∧ x ≠ .slice none 0 0 ∧ SetAt w' m S' ∧ (∀ y, y ∈ S' ↔ y ∈ S ∨ y ∈ newL S (stepsL hs (layer.take i))) ∧ w.grownBy w' (some m)) ⟨_, S, rfl, (Own.empty fS_len hblk1 (by omega)).to rfl, fun e => (by cases e), hm.ext hx1, fun y => by simp [stepsL, newL], grown_ext _ hx1⟩ ?_
  rintro i vs w2 hi ⟨x, S2, rfl, ho2, hn2, hm2, hS2, hg2⟩
  by_cases hlt : i < layer.length
  · have hltI : (i : Int) < layer.length := by omega
    have hltJ : ¬ (layer.length : Int) ≤ i := by omega
    have hq2 : Sq fS 1 w2 u layer := h'.grow hg2 hm
    have a2 := hq2.at1 [] hlt
    have hq2h : Sq fS 1 w2 v hs := h.grow hg2 hm
    have hai := hly _ (getD_mem [] hlt)
    have hsnoc := stepsL_snoc hs layer i hlt
    have hst : (stepsL hs (layer.take i)).length + hs.length ≤ 30003 := by
      rw [stepsL_len, List.length_take]
      have : min i layer.length * hs.length ≤ 10000 * 3 := Nat.mul_le_mul (by omega) hl.1
      omega
    generalize stepsL hs (layer.take i) = st0 at *
    generalize layer.getD i [] = a at *
    have hone : ∀ k, k < hs.length → (hs.take (k + 1)).map (timesL a) = (hs.take k).map (timesL a) ++ [timesL a (hs.getD k [])] := fun k hk => by
      rw [List.take_add_one, List.getElem?_eq_getElem hk, List.getD_eq_getElem?_getD, List.getElem?_eq_getElem hk, List.map_append]; rfl
    simp only [↓vsd, vsn, gW, qd, qv, ev, pick, argE, zipE, ne_eq, eq_self, forall_const, implies_true, if_true, if_false, reduceIte, reduceCtorEq, Nat.reduceEqDiff, Nat.reduceAdd, Nat.reduceLT, ↓us_inextLayer, r_inextLayer, hltI, hltJ, hq2.facts, a2, hq2h.facts]
    refine ⟨by omega, ?_⟩
    refine m_upto hs.length (fun k vs w' => ∃ x S', vs = [x, .int .i64 k] ∧ Own fS 1 9 w.heap.size w' x (newL S (st0 ++ (hs.take k).map (timesL a))) ∧ x ≠ .slice none 0 0 ∧ SetAt w' m S' ∧ (∀ y, y ∈ S' ↔ y ∈ S ∨ y ∈ newL S (st0 ++ (hs.take k).map (timesL a))) ∧ w.grownBy w' (some m)) ⟨x, S2, rfl, by simpa using ho2, hn2, hm2, by simpa using hS2, hg2⟩ ?_
    rintro k vs w3 hk ⟨x3, S3, rfl, ho3, hn3, hm3, hS3, hg3⟩
    by_cases hltk : k < hs.length
    · have hkI : (k : Int) < hs.length := by omega
      have hkJ : ¬ (hs.length : Int) ≤ k := by omega
      have hq3 : Sq fS 1 w3 v hs := h.grow hg3 hm
      have a3 := hq3.at1 [] hltk
      have hb := hhs _ (getD_mem [] hltk)
      have hs1 := hone k hltk
      have hlen := (newL_spec S (st0 ++ (hs.take k).map (timesL a))).2.2
      have hst0 : st0.length + hs.length ≤ 30003 := hst
      have hacc := newL_snoc S (st0 ++ (hs.take k).map (timesL a)) (timesL a (hs.getD k []))
      rw [List.append_assoc, ← hs1] at hacc
      rw [List.length_append, List.length_map, List.length_take] at hlen
      generalize newL S (st0 ++ (hs.take k).map (timesL a)) = acc at *
      generalize hs.getD k [] = g at *
      simp only [↓vsd, vsn, gW, qd, qv, ev, pick, argE, zipE, ne_eq, eq_self, forall_const, implies_true, if_true, if_false, reduceIte, reduceCtorEq, Nat.reduceEqDiff, Nat.reduceAdd, Nat.reduceLT, ↓us_inextLayer, r_inextLayer, hkI, hkJ, hq3.facts, a3]
      refine ⟨by omega, m_call (itimes_ok a g hb.1 (by rw [hai.2, hb.2]) _) ?_⟩
      rintro _ w4 hx4 rfl
      have hx4 : Ext w3 w4 := by first | exact hx4 | exact ud hx4 | exact ud (ud hx4)
      have hm4 := hm3.ext hx4
      have ho4 := ho3.ext hx4
      have hg4 := grown_trans hg3 (grown_ext (some m) hx4)
      have hlk := hm4.look (timesL a g)
      by_cases hin : timesL a g ∈ S3
      · have he : timesL a g ∈ S ∨ timesL a g ∈ acc := (hS3 _).1 hin
        simp only [↓vsd, vsn, gW, qd, qv, ev, pick, argE, zipE, ne_eq, eq_self, forall_const, implies_true, if_true, if_false, reduceIte, reduceCtorEq, Nat.reduceEqDiff, Nat.reduceAdd, Nat.reduceLT, ↓us_inextLayer, r_inextLayer, hlk, hin]
        exact ⟨inR_i64 (by omega), UpTo.next hltk ⟨x3, S3, rfl, ho4.to (by rw [hacc, if_pos he]), hn3, hm4, fun y => by rw [hacc, if_pos he]; exact hS3 y, hg4⟩⟩
      · have he : ¬ (timesL a g ∈ S ∨ timesL a g ∈ acc) := fun hh => hin ((hS3 _).2 hh)
        simp only [↓vsd, vsn, gW, qd, qv, ev, pick, argE, zipE, ne_eq, eq_self, forall_const, implies_true, if_true, if_false, reduceIte, reduceCtorEq, Nat.reduceEqDiff, Nat.reduceAdd, Nat.reduceLT, ↓us_inextLayer, r_inextLayer, hlk, hin]
        refine m_put hm4 ?_
        rintro w5 hm5 hu5
        have ho5 := ho4.upd hu5 (hm4.apart ho4)
        have hg5 := grown_trans hg4 hu5.grown
        simp only [↓vsd, vsn, gW, qd, qv, ev, pick, argE, zipE, ne_eq, eq_self, forall_const, implies_true, if_true, if_false, reduceIte, reduceCtorEq, Nat.reduceEqDiff, Nat.reduceAdd, Nat.reduceLT, ↓us_inextLayer, r_inextLayer]
        refine m_bsl (one_el rfl) ?_
        rintro b6 w6 hb6 hblk6 hx6 hs6
        have hx6 : Ext w5 w6 := by first | exact hx6 | exact ud hx6 | exact ud (ud hx6)
        simp only [↓vsd, vsn, gW, qd, qv, ev, pick, argE, zipE, ne_eq, eq_self, forall_const, implies_true, if_true, if_false, reduceIte, reduceCtorEq, Nat.reduceEqDiff, Nat.reduceAdd, Nat.reduceLT, ↓us_inextLayer, r_inextLayer]
        have hg6 := grown_trans hg5 (grown_ext (some m) hx6)
        have hm6 := hm5.ext hx6
        have ho6 := ho5.ext hx6
        refine m_app ho6 (Sq.one fS_len hblk6 rfl) fS_one (by decide) (by rw [List.length_singleton]; omega) (by decide) hg6.size ?_
        rintro x7 w7 ho7 hg7
        have hg07 := grown_new hg6 hg7 (fun b hb => (ho6.bound b hb).1)
        have hm7 := hm6.grown hg7 (hm6.apart ho6)
        simp only [↓vsd, vsn, gW, qd, qv, ev, pick, argE, zipE, ne_eq, eq_self, forall_const, implies_true, if_true, if_false, reduceIte, reduceCtorEq, Nat.reduceEqDiff, Nat.reduceAdd, Nat.reduceLT, ↓us_inextLayer, r_inextLayer]
        refine ⟨inR_i64 (by omega), UpTo.next hltk ⟨x7, _, rfl, ho7.to (by rw [hacc, if_neg he]), own_ne ho7 (by simp), hm7, fun y => ?_, hg07⟩⟩
        rw [put1_mem, hS3, hacc, if_neg he, List.mem_append, List.mem_singleton, or_assoc]
    · obtain rfl : k = hs.length := by omega
      have hkI : ¬ (hs.length : Int) < hs.length := by omega
      rw [List.take_length, ← hsnoc] at ho3 hS3
      simp only [↓vsd, vsn, gW, qd, qv, ev, pick, argE, zipE, ne_eq, eq_self, forall_const, implies_true, if_true, if_false, reduceIte, reduceCtorEq, Nat.reduceEqDiff, Nat.reduceAdd, Nat.reduceLT, ↓us_inextLayer, r_inextLayer, hkI]
      exact ⟨inR_i64 (by omega), UpTo.next hlt ⟨x3, S3, by simp, ho3, hn3, hm3, hS3, hg3⟩⟩
  · obtain rfl : i = layer.length := by omega
    have hltI : ¬ (layer.length : Int) < layer.length := by omega
    rw [List.take_length] at ho2 hS2
    have hlen := (newL_spec S (stepsL hs layer)).2.2
    have hsl := stepsL_len hs layer
    have hb3 : layer.length * hs.length ≤ 10000 * 3 := Nat.mul_le_mul hl.2 hl.1
    simp only [↓vsd, vsn, gW, qd, qv, ev, pick, argE, zipE, ne_eq, eq_self, forall_const, implies_true, if_true, if_false, reduceIte, reduceCtorEq, Nat.reduceEqDiff, Nat.reduceAdd, Nat.reduceLT, ↓us_inextLayer, r_inextLayer, hltI]
    refine m_callw (by first | exact .inl rfl | exact .inr rfl) (xslices_Sort_string_string_ok x _ (by omega) hn2 _ ho2) ?_
    rintro _ w3 ⟨ho3, hg3⟩
    have hm3 := hm2.grown hg3 (hm2.apart ho2)
    simp only [↓vsd, vsn, gW, qd, qv, ev, pick, argE, zipE, ne_eq, eq_self, forall_const, implies_true, if_true, if_false, reduceIte, reduceCtorEq, Nat.reduceEqDiff, Nat.reduceAdd, Nat.reduceLT, ↓us_inextLayer, r_inextLayer]
    refine ⟨ho3, ⟨S2, hm3, fun y => ?_⟩, grown_new hg2 hg3 (fun b hb => (ho2.bound b hb).1)⟩
    unfold layNx
    rw [srt_mem]
    exact hS2 y
theorem sl15Many_ok (o : Value) (ls : List (List Bs)) (hl : ls.length ≤ 1000 ∧ ls.flatten.length ≤ 1000000) (w : World) (h : Sq2 fS w o ls) : Fn 131 [o] w (fun r _ => r = .int .i64 (ls.flatten.length : Nat)) := by
  (refine callsV_of mix Try.func131 c_sl15Many ?_; simp only [↓vsd, vsn, gW, qd, qv, ev, pick, argE, zipE, ne_eq, eq_self, forall_const, implies_true, if_true, if_false, reduceIte, reduceCtorEq, Nat.reduceEqDiff, Nat.reduceAdd, Nat.reduceLT, ↓us_sl15Many, r_sl15Many])
  simp only [↓vsd, vsn, gW, qd, qv, ev, pick, argE, zipE, ne_eq, eq_self, forall_const, implies_true, if_true, if_false, reduceIte, reduceCtorEq, Nat.reduceEqDiff, Nat.reduceAdd, Nat.reduceLT, ↓us_sl15Many, r_sl15Many, h.facts]
  have hfl : ∀ i, i < ls.length → (ls.take (i + 1)).flatten.length = (ls.take i).flatten.length + (ls.getD i []).length := fun i hi => by
    rw [List.take_add_one, List.getElem?_eq_getElem hi, List.getD_eq_getElem?_getD, List.getElem?_eq_getElem hi, List.flatten_append, List.length_append]
    simp
  have hmono : ∀ i, (ls.take i).flatten.length ≤ ls.flatten.length := fun i => by
    have : ls.flatten = (ls.take i).flatten ++ (ls.drop i).flatten := by rw [← List.flatten_append, List.take_append_drop]
    rw [this, List.length_append]; omega
  refine m_upto ls.length (fun i vs w' => vs = [.int .i64 ((ls.take i).flatten.length : Nat), .int .i64 i] ∧ Ext w w') ⟨rfl, Ext.refl _⟩ ?_
  rintro i vs w1 hi ⟨rfl, hx1⟩
  have hq1 := h.ext hx1
  by_cases hlt : i < ls.length
  · have hltI : (i : Int) < ls.length := by omega
    have hltJ : ¬ (ls.length : Int) ≤ i := by omega
    obtain ⟨u, a1, hu⟩ := hq1.at hlt
    have h1 := hfl i hlt
    have h2 := hmono (i + 1)
    simp only [↓vsd, vsn, gW, qd, qv, ev, pick, argE, zipE, ne_eq, eq_self, forall_const, implies_true, if_true, if_false, reduceIte, reduceCtorEq, Nat.reduceEqDiff, Nat.reduceAdd, Nat.reduceLT, ↓us_sl15Many, r_sl15Many, hltI, hltJ, hq1.facts, a1, hu.facts]
    exact ⟨by omega, inR_i64 (by omega), inR_i64 (by omega), UpTo.next hlt ⟨by rw [h1]; simp, by first | exact hx1 | exact dr hx1⟩⟩
  · obtain rfl : i = ls.length := by omega
    have hltI : ¬ (ls.length : Int) < ls.length := by omega
    simp only [↓vsd, vsn, gW, qd, qv, ev, pick, argE, zipE, ne_eq, eq_self, forall_const, implies_true, if_true, if_false, reduceIte, reduceCtorEq, Nat.reduceEqDiff, Nat.reduceAdd, Nat.reduceLT, ↓us_sl15Many, r_sl15Many, hltI]
    exact ⟨hx1, by rw [List.take_length]⟩
/-- The head of a lead by its call's letter. -/
def HC (st : Nat) (cs : List Bs) (b s : Bs) (c : UInt8) : Bs := headC st cs b s [c]
theorem HC_row {nm : Bs} {st : Nat} {cs : List Bs} {b s : Bs} (h : IsMC nm st cs b s) (c : UInt8) : IsRow (HC st cs b s c) ∧ (HC st cs b s c).length = st := headC_row h [c]
theorem hs3_rows {nm : Bs} {st : Nat} {cs : List Bs} {b s : Bs} (h : IsMC nm st cs b s) : RowsN st (hs3 (HC st cs b s)) := fun x hx => by
  simp only [hs3, List.mem_cons, List.not_mem_nil, or_false] at hx
  rcases hx with rfl | rfl | rfl <;> exact HC_row h _
theorem sl15Next_ok (nm : Bs) (st : Nat) (v o : Value) (cs : List Bs) (b s : Bs) (ls : List (List Bs)) (hM : IsMC nm st cs b s) (hls : 1 ≤ ls.length ∧ ls.length ≤ 1000) (hrow : RowsN st (ls.getD (ls.length - 1) [])) (hbig : ls.flatten.length ≤ 1000000 ∧ (ls.getD (ls.length - 1) []).length ≤ 10000) (hall : ∀ l ∈ ls, l.length ≤ 1000000) (w : World) (h : Sq fS 1 w v cs) (h' : Sq2 fS w o ls) :
    Fn 85 [mV nm st v, kV b s, o] w (fun r w' => Own fS 1 9 w.heap.size w' r (layNx ls.flatten (hs3 (HC st cs b s)) (ls.getD (ls.length - 1) []))) := by
  (refine callsV_of mix Try.func85 c_sl15Next ?_; simp only [↓vsd, vsn, gW, qd, qv, ev, pick, argE, zipE, ne_eq, eq_self, forall_const, implies_true, if_true, if_false, reduceIte, reduceCtorEq, Nat.reduceEqDiff, Nat.reduceAdd, Nat.reduceLT, ↓us_sl15Next, r_sl15Next])
  refine m_al ?_
  rintro b1 w1 hb1 hblk1 hx1 hs1
  have h1 : Blk w1 b1 (fM nm st v) 31 := hblk1
  simp only [↓vsd, vsn, gW, qd, qv, ev, pick, argE, zipE, ne_eq, eq_self, forall_const, implies_true, if_true, if_false, reduceIte, reduceCtorEq, Nat.reduceEqDiff, Nat.reduceAdd, Nat.reduceLT, ↓us_sl15Next, r_sl15Next, h1.facts, fMg]
  refine m_al ?_
  rintro b2 w2 hb2 hblk2 hx2 hs2
  have h2 : Blk w2 b2 (fQ b s) 33 := hblk2
  have h12 := h1.ext hx2
  have hx12 := hx1.trans hx2
  simp only [↓vsd, vsn, gW, qd, qv, ev, pick, argE, zipE, ne_eq, eq_self, forall_const, implies_true, if_true, if_false, reduceIte, reduceCtorEq, Nat.reduceEqDiff, Nat.reduceAdd, Nat.reduceLT, ↓us_sl15Next, r_sl15Next, h12.facts, h2.facts, fMg, fQg]
  have hq := h'.ext hx12
  have hlast : ls.length - 1 < ls.length := by omega
  obtain ⟨u, a1, hu⟩ := hq.at hlast
  have eI : (ls.length : Int) - 1 = ((ls.length - 1 : Nat) : Int) := by omega
  simp only [↓vsd, vsn, gW, qd, qv, ev, pick, argE, zipE, ne_eq, eq_self, forall_const, implies_true, if_true, if_false, reduceIte, reduceCtorEq, Nat.reduceEqDiff, Nat.reduceAdd, Nat.reduceLT, ↓us_sl15Next, r_sl15Next, hq.facts, eI, a1, hu.facts]
  refine ⟨inR_i64 (by omega), by omega, ?_⟩
  generalize hL : ls.getD (ls.length - 1) [] = L at *
  generalize hhs : hs3 (HC st cs b s) = hs
  have hhr : RowsN st hs := hhs ▸ hs3_rows hM
  have hhl : hs.length = 3 := by rw [← hhs]; rfl
  have hsl := fun l : List Bs => stepsL_len hs l
  refine m_upto L.length (fun i vs w' => ∃ x, vs = [x, .int .i64 i] ∧ Own fS 1 9 w2.heap.size w' x (stepsL hs (L.take i)) ∧ Ext w2 w') ⟨_, rfl, (Own.nil fS_len).to rfl, Ext.refl _⟩ ?_
  rintro i vs w3 hi ⟨x, rfl, ho3, hx3⟩
  have h13 := h12.ext hx3
  have h23 := h2.ext hx3
  have hu3 := hu.ext hx3
  have hx03 := hx12.trans hx3
  by_cases hlt : i < L.length
  · have hltI : (i : Int) < L.length := by omega
    have hltJ : ¬ (L.length : Int) ≤ i := by omega
    have a3 := hu3.at1 [] hlt
    have hai := hrow _ (getD_mem [] hlt)
    have hsnoc := stepsL_snoc hs L i hlt
    have hst : (stepsL hs (L.take i)).length + 3 ≤ 30003 := by
      rw [stepsL_len, List.length_take, hhl]
      have := hbig.2
      omega
    generalize stepsL hs (L.take i) = st0 at *
    generalize L.getD i [] = a at *
    have hone : ∀ k, k < 3 → (hs.take (k + 1)).map (timesL a) = (hs.take k).map (timesL a) ++ [timesL a (hs.getD k [])] := fun k hk => by
      rw [List.take_add_one, List.getElem?_eq_getElem (by omega), List.getD_eq_getElem?_getD, List.getElem?_eq_getElem (by omega), List.map_append]; rfl
    simp only [↓vsd, vsn, gW, qd, qv, ev, pick, argE, zipE, ne_eq, eq_self, forall_const, implies_true, if_true, if_false, reduceIte, reduceCtorEq, Nat.reduceEqDiff, Nat.reduceAdd, Nat.reduceLT, ↓us_sl15Next, r_sl15Next, hltI, hltJ, hu3.facts, a3]
    refine ⟨by omega, ?_⟩
    refine m_bsl (by simp; exact ⟨rfl, rfl, rfl⟩) ?_
    rintro b4 w4 hb4 hblk4 hx4 hs4
    have hK : Own fS 1 9 w3.heap.size w4 (.slice (some ⟨b4, 0, none⟩) 3 3) [[112], [98], [115]] := Own.lits (ls := [[112], [98], [115]]) hblk4 rfl (by omega) (by simp)
    have hapK : Apart x (.slice (some ⟨b4, 0, none⟩) 3 3) := fun c hc e => by have := ho3.lt c hc; simp only [Value.ownBlock, Option.some.injEq] at e; omega
    simp only [↓vsd, vsn, gW, qd, qv, ev, pick, argE, zipE, ne_eq, eq_self, forall_const, implies_true, if_true, if_false, reduceIte, reduceCtorEq, Nat.reduceEqDiff, Nat.reduceAdd, Nat.reduceLT, ↓us_sl15Next, r_sl15Next]
    generalize Value.slice (some ⟨b4, 0, none⟩) 3 3 = kv at *
    obtain ⟨K, hKe⟩ : ∃ K : List Bs, K = [[112], [98], [115]] := ⟨_, rfl⟩
    rw [← hKe] at hK
    have hK3 : K.length = 3 := by rw [hKe]; rfl
    refine m_upto 3 (fun k vs w' => ∃ x, vs = [x, .int .i64 k] ∧ Own fS 1 9 w2.heap.size w' x (st0 ++ (hs.take k).map (timesL a)) ∧ Ext w2 w' ∧ Own fS 1 9 w3.heap.size w' kv K ∧ Apart x kv) ⟨x, rfl, by simpa using ho3.ext hx4, hx3.trans hx4, hK, hapK⟩ ?_
    rintro k vs w5 hk ⟨x5, rfl, ho5, hx5, hK5o, hap5⟩
    have h15 := h12.ext hx5
    have h25 := h2.ext hx5
    have hK5 := hK5o.sq
    have hx05 := hx12.trans hx5
    by_cases hltk : k < 3
    · have hkI : (k : Int) < ((3 : Nat) : Int) := by omega
      have hkJ : ¬ ((3 : Nat) : Int) ≤ k := by omega
      have a5 := hK5.at1 [] (i := k) (by omega)
      have hh : hs.getD k [] = headC st cs b s (K.getD k []) := by
        rw [← hhs, hKe]
        match k, hltk with
        | 0, _ => rfl
        | 1, _ => rfl
        | 2, _ => rfl
      have hb := headC_row hM (K.getD k [])
      have hs1 := hone k hltk
      rw [hh] at hs1
      have hlen : (st0 ++ (hs.take k).map (timesL a)).length ≤ 30003 := by
        rw [List.length_append, List.length_map, List.length_take]; omega
      generalize K.getD k [] = call at *
      simp only [↓vsd, vsn, gW, qd, qv, ev, pick, argE, zipE, ne_eq, eq_self, forall_const, implies_true, if_true, if_false, reduceIte, reduceCtorEq, Nat.reduceEqDiff, Nat.reduceAdd, Nat.reduceLT, ↓us_sl15Next, r_sl15Next, hkI, hkJ, hK5.facts, hK3, a5, h15.facts, h25.facts, fMg, fQg]
      refine ⟨by omega, m_call (sl8Head_ok nm st v cs b s call hM _ (by first | exact h.ext hx05 | exact h.ext (dr hx05))) ?_⟩
      rintro _ w6 hx6 rfl
      have hx6 : Ext w5 w6 := by first | exact hx6 | exact ud hx6 | exact ud (ud hx6)
      simp only [↓vsd, vsn, gW, qd, qv, ev, pick, argE, zipE, ne_eq, eq_self, forall_const, implies_true, if_true, if_false, reduceIte, reduceCtorEq, Nat.reduceEqDiff, Nat.reduceAdd, Nat.reduceLT, ↓us_sl15Next, r_sl15Next]
      refine m_call (sl1Times_ok a _ hb.1 (by rw [hai.2, hb.2]) _) ?_
      rintro _ w7 hx7 rfl
      have hx7 : Ext w6 w7 := by first | exact hx7 | exact ud hx7 | exact ud (ud hx7)
      simp only [↓vsd, vsn, gW, qd, qv, ev, pick, argE, zipE, ne_eq, eq_self, forall_const, implies_true, if_true, if_false, reduceIte, reduceCtorEq, Nat.reduceEqDiff, Nat.reduceAdd, Nat.reduceLT, ↓us_sl15Next, r_sl15Next]
      refine m_bsl (one_el rfl) ?_
      rintro b8 w8 hb8 hblk8 hx8 hs8
      have hx8 : Ext w7 w8 := by first | exact hx8 | exact ud hx8 | exact ud (ud hx8)
      simp only [↓vsd, vsn, gW, qd, qv, ev, pick, argE, zipE, ne_eq, eq_self, forall_const, implies_true, if_true, if_false, reduceIte, reduceCtorEq, Nat.reduceEqDiff, Nat.reduceAdd, Nat.reduceLT, ↓us_sl15Next, r_sl15Next]
      have hx58 := (hx6.trans hx7).trans hx8
      refine m_app2 (ho5.ext hx58) (Sq.one fS_len hblk8 rfl) fS_one (by decide) (by rw [List.length_singleton]; omega) (by decide) (hx5.trans hx58).size ?_
      rintro x9 w9 ho9 hg9 hn9
      have hx9 := (ho5.ext hx58).grown (hx5.trans hx58) (Nat.le_refl _) hg9
      have hK9 := (hK5o.ext hx58).keep2 hg9 hap5
      simp only [↓vsd, vsn, gW, qd, qv, ev, pick, argE, zipE, ne_eq, eq_self, forall_const, implies_true, if_true, if_false, reduceIte, reduceCtorEq, Nat.reduceEqDiff, Nat.reduceAdd, Nat.reduceLT, ↓us_sl15Next, r_sl15Next]
      exact ⟨inR_i64 (by omega), UpTo.next hltk ⟨x9, rfl, ho9.to (by rw [hs1, List.append_assoc]), hx9, hK9, hap5.next (hK5o.ext hx58) hn9⟩⟩
    · obtain rfl : k = 3 := by omega
      have e3 : hs.take 3 = hs := by rw [← hhl, List.take_length]
      rw [e3, ← hsnoc] at ho5
      have hkI : ¬ ((3 : Nat) : Int) < ((3 : Nat) : Int) := by omega
      simp only [↓vsd, vsn, gW, qd, qv, ev, pick, argE, zipE, ne_eq, eq_self, forall_const, implies_true, if_true, if_false, reduceIte, reduceCtorEq, Nat.reduceEqDiff, Nat.reduceAdd, Nat.reduceLT, ↓us_sl15Next, r_sl15Next, hkI]
      exact ⟨inR_i64 (by omega), UpTo.next hlt ⟨x5, by simp, ho5, hx5⟩⟩
  · obtain rfl : i = L.length := by omega
    have hltI : ¬ (L.length : Int) < L.length := by omega
    rw [List.take_length] at ho3
    have hal := stepsL_len hs L
    rw [hhl] at hal
    have hb2 := hbig.2
    simp only [↓vsd, vsn, gW, qd, qv, ev, pick, argE, zipE, ne_eq, eq_self, forall_const, implies_true, if_true, if_false, reduceIte, reduceCtorEq, Nat.reduceEqDiff, Nat.reduceAdd, Nat.reduceLT, ↓us_sl15Next, r_sl15Next, hltI]
    refine m_call (sl6Sort_ok _ _ x (Nat.le_refl _) (by omega) _ ho3.sq) ?_
    rintro y w4 hx4 ho4
    have hq4 := hq.ext (hx3.trans hx4)
    have hx24 := hx3.trans hx4
    have hsl : (srt (stepsL hs L)).length = (stepsL hs L).length := srt_len _
    have hlen4 : (srt (stepsL hs L)).length ≤ 30000 := by omega
    simp only [↓vsd, vsn, gW, qd, qv, ev, pick, argE, zipE, ne_eq, eq_self, forall_const, implies_true, if_true, if_false, reduceIte, reduceCtorEq, Nat.reduceEqDiff, Nat.reduceAdd, Nat.reduceLT, ↓us_sl15Next, r_sl15Next, ho4.sq.facts]
    have hU := uqL_nxt ls.flatten hs L
    generalize hZ : srt (stepsL hs L) = Z at *
    refine m_upto Z.length (fun i vs w' => ∃ x, vs = [x, .int .i64 i] ∧ Own fS 1 9 w4.heap.size w' x (uqL ls.flatten (Z.take i)) ∧ Ext w4 w') ⟨_, rfl, (Own.nil fS_len).to rfl, Ext.refl _⟩ ?_
    rintro i vs w5 hi ⟨x5, rfl, ho5, hx5⟩
    have hz5 := ho4.sq.ext hx5
    have hq5 := hq4.ext hx5
    by_cases hlt : i < Z.length
    · have hltI : (i : Int) < Z.length := by omega
      have hltJ : ¬ (Z.length : Int) ≤ i := by omega
      have a5 := hz5.at1 [] hlt
      have hsn : uqL ls.flatten (Z.take (i + 1)) = if (uqL ls.flatten (Z.take i)).getLast? = some (Z.getD i []) ∨ Z.getD i [] ∈ ls.flatten then uqL ls.flatten (Z.take i) else uqL ls.flatten (Z.take i) ++ [Z.getD i []] := by
        rw [List.take_add_one, List.getElem?_eq_getElem hlt, List.getD_eq_getElem?_getD, List.getElem?_eq_getElem hlt]
        exact uqL_snoc _ _ _
      have hul : (uqL ls.flatten (Z.take i)).length ≤ 30000 := by
        have := uqL_len ls.flatten (Z.take i)
        rw [List.length_take] at this
        omega
      generalize uqL ls.flatten (Z.take i) = A at *
      generalize Z.getD i [] = r at *
      have hfl : ∀ j, j < ls.length → (r ∈ (ls.take (j + 1)).flatten ↔ r ∈ (ls.take j).flatten ∨ r ∈ ls.getD j []) := fun j hj => by
        rw [List.take_add_one, List.getElem?_eq_getElem hj, List.getD_eq_getElem?_getD, List.getElem?_eq_getElem hj, List.flatten_append, List.mem_append]
        simp
      by_cases hA : 0 < A.length
      · have hAI : 0 < (A.length : Int) := by omega
        have eA : (A.length : Int) - 1 = ((A.length - 1 : Nat) : Int) := by omega
        have a6 := ho5.sq.at1 [] (show A.length - 1 < A.length by omega)
        have hgl : A.getLast? = some r ↔ A.getD (A.length - 1) [] = r := by
          rw [List.getLast?_eq_getElem?, List.getD_eq_getElem?_getD, List.getElem?_eq_getElem (show A.length - 1 < A.length by omega)]
          simp
        simp only [↓vsd, vsn, gW, qd, qv, ev, pick, argE, zipE, ne_eq, eq_self, forall_const, implies_true, if_true, if_false, reduceIte, reduceCtorEq, Nat.reduceEqDiff, Nat.reduceAdd, Nat.reduceLT, ↓us_sl15Next, r_sl15Next, hltI, hltJ, hz5.facts, a5, ho5.sq.facts, hAI, eA, a6, hq5.facts]
        refine ⟨by omega, inR_i64 (by omega), by omega, ?_⟩
        refine m_upto ls.length (fun j vs w' => vs = [.bool (decide (A.getLast? = some r ∨ r ∈ (ls.take j).flatten)), .int .i64 j] ∧ Ext w5 w') ⟨?_, Ext.refl _⟩ ?_
        · simp [hgl]
        rintro j vs w6 hj ⟨rfl, hx6⟩
        have hq6 := hq5.ext hx6
        have ho6 := ho5.ext hx6
        by_cases hltj : j < ls.length
        · have hjI : (j : Int) < ls.length := by omega
          have hjJ : ¬ (ls.length : Int) ≤ j := by omega
          obtain ⟨ul, al, hul2⟩ := hq6.at hltj
          have hfj := hfl j hltj
          by_cases hs6 : A.getLast? = some r ∨ r ∈ (ls.take j).flatten
          · have hs7 : A.getLast? = some r ∨ r ∈ (ls.take (j + 1)).flatten := hs6.imp id fun h => hfj.2 (.inl h)
            simp only [↓vsd, vsn, gW, qd, qv, ev, pick, argE, zipE, ne_eq, eq_self, forall_const, implies_true, if_true, if_false, reduceIte, reduceCtorEq, Nat.reduceEqDiff, Nat.reduceAdd, Nat.reduceLT, ↓us_sl15Next, r_sl15Next, hjI, hjJ, hq6.facts, al, hs6]
            exact ⟨by omega, inR_i64 (by omega), UpTo.next hltj ⟨by rw [decide_eq_true hs7]; simp, by first | exact hx6 | exact dr hx6⟩⟩
          · simp only [↓vsd, vsn, gW, qd, qv, ev, pick, argE, zipE, ne_eq, eq_self, forall_const, implies_true, if_true, if_false, reduceIte, reduceCtorEq, Nat.reduceEqDiff, Nat.reduceAdd, Nat.reduceLT, ↓us_sl15Next, r_sl15Next, hjI, hjJ, hq6.facts, al, hs6]
            refine ⟨by omega, m_call (sl1HasS_ok ul (ls.getD j []) r (by have := hall _ (getD_mem [] hltj); omega) _ (by first | exact hul2 | exact hul2.ext (dr (Ext.refl _)))) ?_⟩
            rintro _ w7 hx7 rfl
            have hx7 : Ext w6 w7 := by first | exact hx7 | exact ud hx7 | exact ud (ud hx7)
            simp only [↓vsd, vsn, gW, qd, qv, ev, pick, argE, zipE, ne_eq, eq_self, forall_const, implies_true, if_true, if_false, reduceIte, reduceCtorEq, Nat.reduceEqDiff, Nat.reduceAdd, Nat.reduceLT, ↓us_sl15Next, r_sl15Next]
            have hdq : decide (r ∈ ls.getD j []) = decide (A.getLast? = some r ∨ r ∈ (ls.take (j + 1)).flatten) := by
              rw [not_or] at hs6
              simp [hfj, hs6.1, hs6.2]
            exact ⟨inR_i64 (by omega), UpTo.next hltj ⟨by rw [← hdq]; simp, hx6.trans hx7⟩⟩
        · obtain rfl : j = ls.length := by omega
          have hjI : ¬ (ls.length : Int) < ls.length := by omega
          rw [List.take_length]
          by_cases hs6 : A.getLast? = some r ∨ r ∈ ls.flatten
          · simp only [↓vsd, vsn, gW, qd, qv, ev, pick, argE, zipE, ne_eq, eq_self, forall_const, implies_true, if_true, if_false, reduceIte, reduceCtorEq, Nat.reduceEqDiff, Nat.reduceAdd, Nat.reduceLT, ↓us_sl15Next, r_sl15Next, hjI, hs6]
            exact ⟨inR_i64 (by omega), UpTo.next hlt ⟨x5, by simp, ho6.to (by rw [hsn, if_pos hs6]), hx5.trans hx6⟩⟩
          · simp only [↓vsd, vsn, gW, qd, qv, ev, pick, argE, zipE, ne_eq, eq_self, forall_const, implies_true, if_true, if_false, reduceIte, reduceCtorEq, Nat.reduceEqDiff, Nat.reduceAdd, Nat.reduceLT, ↓us_sl15Next, r_sl15Next, hjI, hs6]
            refine m_bsl (one_el rfl) ?_
            rintro b7 w7 hb7 hblk7 hx7 hs7
            have hx7 : Ext w6 w7 := by first | exact hx7 | exact ud hx7 | exact ud (ud hx7)
            simp only [↓vsd, vsn, gW, qd, qv, ev, pick, argE, zipE, ne_eq, eq_self, forall_const, implies_true, if_true, if_false, reduceIte, reduceCtorEq, Nat.reduceEqDiff, Nat.reduceAdd, Nat.reduceLT, ↓us_sl15Next, r_sl15Next]
            have hx57 := hx6.trans hx7
            refine m_app (ho5.ext hx57) (Sq.one fS_len hblk7 rfl) fS_one (by decide) (by rw [List.length_singleton]; omega) (by decide) (hx5.trans hx57).size ?_
            rintro x8 w8 ho8 hg8
            have hx8 := (ho5.ext hx57).grown (hx5.trans hx57) (Nat.le_refl _) hg8
            simp only [↓vsd, vsn, gW, qd, qv, ev, pick, argE, zipE, ne_eq, eq_self, forall_const, implies_true, if_true, if_false, reduceIte, reduceCtorEq, Nat.reduceEqDiff, Nat.reduceAdd, Nat.reduceLT, ↓us_sl15Next, r_sl15Next]
            exact ⟨inR_i64 (by omega), UpTo.next hlt ⟨x8, by simp, ho8.to (by rw [hsn, if_neg hs6]), hx8⟩⟩
      · have hAI : ¬ 0 < (A.length : Int) := by omega
        have hgl : ¬ A.getLast? = some r := by
          rw [List.length_eq_zero_iff.1 (show A.length = 0 by omega)]; simp
        simp only [↓vsd, vsn, gW, qd, qv, ev, pick, argE, zipE, ne_eq, eq_self, forall_const, implies_true, if_true, if_false, reduceIte, reduceCtorEq, Nat.reduceEqDiff, Nat.reduceAdd, Nat.reduceLT, ↓us_sl15Next, r_sl15Next, hltI, hltJ, hz5.facts, a5, ho5.sq.facts, hAI, hq5.facts]
        refine ⟨by omega, ?_⟩
        refine m_upto ls.length (fun j vs w' => vs = [.bool (decide (A.getLast? = some r ∨ r ∈ (ls.take j).flatten)), .int .i64 j] ∧ Ext w5 w') ⟨?_, Ext.refl _⟩ ?_
        · simp [hgl]
        rintro j vs w6 hj ⟨rfl, hx6⟩
        have hq6 := hq5.ext hx6
        have ho6 := ho5.ext hx6
        by_cases hltj : j < ls.length
        · have hjI : (j : Int) < ls.length := by omega
          have hjJ : ¬ (ls.length : Int) ≤ j := by omega
          obtain ⟨ul, al, hul2⟩ := hq6.at hltj
          have hfj := hfl j hltj
          by_cases hs6 : A.getLast? = some r ∨ r ∈ (ls.take j).flatten
          · have hs7 : A.getLast? = some r ∨ r ∈ (ls.take (j + 1)).flatten := hs6.imp id fun h => hfj.2 (.inl h)
            simp only [↓vsd, vsn, gW, qd, qv, ev, pick, argE, zipE, ne_eq, eq_self, forall_const, implies_true, if_true, if_false, reduceIte, reduceCtorEq, Nat.reduceEqDiff, Nat.reduceAdd, Nat.reduceLT, ↓us_sl15Next, r_sl15Next, hjI, hjJ, hq6.facts, al, hs6]
            exact ⟨by omega, inR_i64 (by omega), UpTo.next hltj ⟨by rw [decide_eq_true hs7]; simp, by first | exact hx6 | exact dr hx6⟩⟩
          · simp only [↓vsd, vsn, gW, qd, qv, ev, pick, argE, zipE, ne_eq, eq_self, forall_const, implies_true, if_true, if_false, reduceIte, reduceCtorEq, Nat.reduceEqDiff, Nat.reduceAdd, Nat.reduceLT, ↓us_sl15Next, r_sl15Next, hjI, hjJ, hq6.facts, al, hs6]
            refine ⟨by omega, m_call (sl1HasS_ok ul (ls.getD j []) r (by have := hall _ (getD_mem [] hltj); omega) _ (by first | exact hul2 | exact hul2.ext (dr (Ext.refl _)))) ?_⟩
            rintro _ w7 hx7 rfl
            have hx7 : Ext w6 w7 := by first | exact hx7 | exact ud hx7 | exact ud (ud hx7)
            simp only [↓vsd, vsn, gW, qd, qv, ev, pick, argE, zipE, ne_eq, eq_self, forall_const, implies_true, if_true, if_false, reduceIte, reduceCtorEq, Nat.reduceEqDiff, Nat.reduceAdd, Nat.reduceLT, ↓us_sl15Next, r_sl15Next]
            have hdq : decide (r ∈ ls.getD j []) = decide (A.getLast? = some r ∨ r ∈ (ls.take (j + 1)).flatten) := by
              rw [not_or] at hs6
              simp [hfj, hs6.1, hs6.2]
            exact ⟨inR_i64 (by omega), UpTo.next hltj ⟨by rw [← hdq]; simp, hx6.trans hx7⟩⟩
        · obtain rfl : j = ls.length := by omega
          have hjI : ¬ (ls.length : Int) < ls.length := by omega
          rw [List.take_length]
          by_cases hs6 : A.getLast? = some r ∨ r ∈ ls.flatten
          · simp only [↓vsd, vsn, gW, qd, qv, ev, pick, argE, zipE, ne_eq, eq_self, forall_const, implies_true, if_true, if_false, reduceIte, reduceCtorEq, Nat.reduceEqDiff, Nat.reduceAdd, Nat.reduceLT, ↓us_sl15Next, r_sl15Next, hjI, hs6]
            exact ⟨inR_i64 (by omega), UpTo.next hlt ⟨x5, by simp, ho6.to (by rw [hsn, if_pos hs6]), hx5.trans hx6⟩⟩
          · simp only [↓vsd, vsn, gW, qd, qv, ev, pick, argE, zipE, ne_eq, eq_self, forall_const, implies_true, if_true, if_false, reduceIte, reduceCtorEq, Nat.reduceEqDiff, Nat.reduceAdd, Nat.reduceLT, ↓us_sl15Next, r_sl15Next, hjI, hs6]
            refine m_bsl (one_el rfl) ?_
            rintro b7 w7 hb7 hblk7 hx7 hs7
            have hx7 : Ext w6 w7 := by first | exact hx7 | exact ud hx7 | exact ud (ud hx7)
            simp only [↓vsd, vsn, gW, qd, qv, ev, pick, argE, zipE, ne_eq, eq_self, forall_const, implies_true, if_true, if_false, reduceIte, reduceCtorEq, Nat.reduceEqDiff, Nat.reduceAdd, Nat.reduceLT, ↓us_sl15Next, r_sl15Next]
            have hx57 := hx6.trans hx7
            refine m_app (ho5.ext hx57) (Sq.one fS_len hblk7 rfl) fS_one (by decide) (by rw [List.length_singleton]; omega) (by decide) (hx5.trans hx57).size ?_
            rintro x8 w8 ho8 hg8
            have hx8 := (ho5.ext hx57).grown (hx5.trans hx57) (Nat.le_refl _) hg8
            simp only [↓vsd, vsn, gW, qd, qv, ev, pick, argE, zipE, ne_eq, eq_self, forall_const, implies_true, if_true, if_false, reduceIte, reduceCtorEq, Nat.reduceEqDiff, Nat.reduceAdd, Nat.reduceLT, ↓us_sl15Next, r_sl15Next]
            exact ⟨inR_i64 (by omega), UpTo.next hlt ⟨x8, by simp, ho8.to (by rw [hsn, if_neg hs6]), hx8⟩⟩
    · obtain rfl : i = Z.length := by omega
      have hltI : ¬ (Z.length : Int) < Z.length := by omega
      rw [List.take_length, hU] at ho5
      simp only [↓vsd, vsn, gW, qd, qv, ev, pick, argE, zipE, ne_eq, eq_self, forall_const, implies_true, if_true, if_false, reduceIte, reduceCtorEq, Nat.reduceEqDiff, Nat.reduceAdd, Nat.reduceLT, ↓us_sl15Next, r_sl15Next, hltI]
      exact ⟨(hx12.trans hx24).trans hx5, ho5.mono (hx12.trans hx24).size⟩
end Go.Proofs.Ytnhealghpfjdcaa
