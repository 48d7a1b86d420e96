/-
  The drawing of changes.
  Conditions: none.
-/
import Derived.Test.YtfklonhjgkahdaaKA11
import Derived.Test.YtfklonhjgkahdaaKD2
import Derived.Test.YtfklonhjgkahdaaKPg
import Derived.Test.YtfklonhjgkahdaaKVn
set_option linter.unusedSimpArgs false
set_option linter.unusedVariables false
set_option linter.defProp false
namespace Go.Proofs.Ytfklonhjgkahdaa
open Go Go.RowKit
section
variable (P : Program) (k : KT) (e : Env) (w : World)
abbrev b80_1 : X := (.cond (.t 4) (.seq (.reg [2] (.c (.q 5 [] (.mv (.t 0))) (.c (.q 6 [] (.bin .add (.c (.int .i64 48)) (.t 5))) (.c (.q 7 [] (.cvi .u8 (.t 6))) (.c (.e (some 8) [] (.bsl 5 1 [(.t 7)])) (.c (.e (some 9) [] (.b2s (.t 8))) (.c (.q 2 [] (.mv (.t 9))) .nil))))))) .ret) .skip)
def t80_1 := b80_1
theorem u80_1 : vcK P t80_1 k e w = vcK P b80_1 k e w := rfl
abbrev b80_2 : X := (.seq (.drw [2] (.c (.q 10 [] (.mv (.t 0))) (.c (.q 11 [] (.bin .quo (.t 10) (.c (.int .i64 10)))) (.c (.q 13 [] (.mv (.t 0))) (.c (.q 14 [] (.bin .rem (.t 13) (.c (.int .i64 10)))) (.c (.q 15 [] (.bin .add (.c (.int .i64 48)) (.t 14))) (.c (.q 16 [] (.cvi .u8 (.t 15))) (.alt (.c (.e (some 12) [] (.call false 80 [(.t 11)])) (.c (.e (some 17) [] (.bsl 5 1 [(.t 16)])) (.c (.e (some 18) [] (.b2s (.t 17))) (.c (.q 19 [] (.bin .add (.t 12) (.t 18))) (.c (.q 2 [] (.mv (.t 19))) .nil))))) (.c (.e (some 17) [] (.bsl 5 1 [(.t 16)])) (.alt (.c (.e (some 12) [] (.call false 80 [(.t 11)])) (.c (.e (some 18) [] (.b2s (.t 17))) (.c (.q 19 [] (.bin .add (.t 12) (.t 18))) (.c (.q 2 [] (.mv (.t 19))) .nil)))) (.c (.e (some 18) [] (.b2s (.t 17))) (.c (.e (some 12) [] (.call false 80 [(.t 11)])) (.c (.q 19 [] (.bin .add (.t 12) (.t 18))) (.c (.q 2 [] (.mv (.t 19))) .nil)))))))))))))) .ret)
def t80_2 := b80_2
theorem u80_2 : vcK P t80_2 k e w = vcK P b80_2 k e w := rfl
abbrev b80_3 : X := (.seq (.seq (.reg [0, 4] (.c (.q 3 [] (.mv (.t 0))) (.c (.q 4 [] (.bin .lss (.t 3) (.c (.int .i64 10)))) .nil))) t80_1) t80_2)
def t80_3 := b80_3
theorem u80_3 : vcK P t80_3 k e w = vcK P b80_3 k e w := rfl
abbrev b80_0 : X := (.seq (.reg [0] (.c (.q 2 [] (.mv (.s []))) .nil)) t80_3)
def x_sl1Num := b80_0
theorem u80_0 : vcK P x_sl1Num k e w = vcK P b80_0 k e w := rfl
def r_sl1Num : List XO := [(.mv (.t 2))]
theorem c_sl1Num : convF Try.prog [38, 39, 41, 42, 49, 54, 55, 57, 58, 59, 73, 79, 81, 84, 87, 139] Try.f80 [([0], []), ([0, 4], []), ([2], []), ([2], [])] = some (x_sl1Num, r_sl1Num) := by kernel_rfl
def us_sl1Num :=  (aI (aI @u80_0 @u80_1) (aI @u80_2 @u80_3))
abbrev b111_1 : X := (.reg [3, 6, 7, 8] (.c (.q 12 [] (.mv (.t 3))) (.c (.q 13 [] (.mv (.t 5))) (.c (.e (some 14) [] (.call false 80 [(.t 13)])) (.c (.q 15 [] (.bin .add (.t 12) (.t 14))) (.c (.q 3 [] (.mv (.t 15))) .nil))))))
def t111_1 := b111_1
theorem u111_1 : vcK P t111_1 k e w = vcK P b111_1 k e w := rfl
abbrev b111_2 : X := (.reg [3, 6, 7, 8] (.c (.q 16 [] (.bin .add (.t 8) (.c (.int .i64 1)))) (.c (.q 8 [] (.mv (.t 16))) .nil)))
def t111_2 := b111_2
theorem u111_2 : vcK P t111_2 k e w = vcK P b111_2 k e w := rfl
abbrev b111_3 : X := (.seq (.blk 1 (.seq (.reg [3, 5, 6, 7, 8] (.c (.q 10 [] (.ia 1 (.t 6) (.t 8))) (.c (.q 11 [] (.ld (.t 10))) (.c (.q 5 [] (.mv (.t 11))) .nil)))) t111_1)) t111_2)
def t111_3 := b111_3
theorem u111_3 : vcK P t111_3 k e w = vcK P b111_3 k e w := rfl
abbrev b111_4 : X := (.seq (.cond (.t 9) .skip (.exit 0)) t111_3)
def t111_4 := b111_4
theorem u111_4 : vcK P t111_4 k e w = vcK P b111_4 k e w := rfl
abbrev b111_5 : X := (.seq (.reg [3, 6, 7, 8, 9] (.c (.q 9 [] (.bin .lss (.t 8) (.t 7))) .nil)) t111_4)
def t111_5 := b111_5
theorem u111_5 : vcK P t111_5 k e w = vcK P b111_5 k e w := rfl
abbrev b111_6 : X := (.blk 0 (.loop [3, 8] [6, 7] t111_5))
def t111_6 := b111_6
theorem u111_6 : vcK P t111_6 k e w = vcK P b111_6 k e w := rfl
abbrev b111_7 : X := (.cond (.t 18) (.seq (.reg [2] (.c (.q 2 [] (.mv (.s [45]))) .nil)) .ret) .skip)
def t111_7 := b111_7
theorem u111_7 : vcK P t111_7 k e w = vcK P b111_7 k e w := rfl
abbrev b111_8 : X := (.seq (.reg [2] (.c (.q 19 [] (.mv (.t 3))) (.c (.q 2 [] (.mv (.t 19))) .nil))) .ret)
def t111_8 := b111_8
theorem u111_8 : vcK P t111_8 k e w = vcK P b111_8 k e w := rfl
abbrev b111_9 : X := (.seq (.seq (.reg [3, 18] (.c (.q 17 [] (.mv (.t 3))) (.c (.q 18 [] (.bin .eql (.t 17) (.s []))) .nil))) t111_7) t111_8)
def t111_9 := b111_9
theorem u111_9 : vcK P t111_9 k e w = vcK P b111_9 k e w := rfl
abbrev b111_10 : X := (.seq (.seq (.reg [3, 6, 7, 8] (.c (.q 6 [] (.mv (.t 0))) (.c (.q 7 [] (.lens (.t 6))) (.c (.q 8 [] (.mv (.c (.int .i64 0)))) .nil)))) t111_6) t111_9)
def t111_10 := b111_10
theorem u111_10 : vcK P t111_10 k e w = vcK P b111_10 k e w := rfl
abbrev b111_11 : X := (.seq (.reg [0, 3] (.c (.q 3 [] (.mv (.s []))) .nil)) t111_10)
def t111_11 := b111_11
theorem u111_11 : vcK P t111_11 k e w = vcK P b111_11 k e w := rfl
abbrev b111_0 : X := (.seq (.reg [0] (.c (.q 2 [] (.mv (.s []))) .nil)) t111_11)
def x_sl2Of := b111_0
theorem u111_0 : vcK P x_sl2Of k e w = vcK P b111_0 k e w := rfl
def r_sl2Of : List XO := [(.mv (.t 2))]
theorem c_sl2Of : convF Try.prog [38, 39, 41, 42, 49, 54, 55, 57, 58, 59, 73, 79, 81, 84, 87, 139] Try.f111 [([0], []), ([0, 3], []), ([3, 6, 7, 8], []), ([3, 8], [6, 7]), ([3, 6, 7, 8, 9], []), ([3, 5, 6, 7, 8], []), ([3, 6, 7, 8], []), ([3, 6, 7, 8], []), ([3, 18], []), ([2], []), ([2], [])] = some (x_sl2Of, r_sl2Of) := by kernel_rfl
def us_sl2Of :=  (aI (aI (aI @u111_0 (aI @u111_1 @u111_2)) (aI @u111_3 (aI @u111_4 @u111_5))) (aI (aI @u111_6 (aI @u111_7 @u111_8)) (aI @u111_9 (aI @u111_10 @u111_11))))
abbrev b110_1 : X := (.cond (.t 10) (.seq (.reg [4] (.c (.e (some 11) [] (.bsl 69 1 [(.c (.slice none 0 0))])) (.c (.q 4 [] (.mv (.t 11))) .nil))) .ret) .skip)
def t110_1 := b110_1
theorem u110_1 : vcK P t110_1 k e w = vcK P b110_1 k e w := rfl
abbrev b110_2 : X := (.reg [0, 1, 5, 15, 16, 17] (.c (.q 21 [] (.mv (.t 5))) (.c (.q 22 [] (.mv (.t 1))) (.c (.e (some 23) [] (.bsl 3 1 [(.t 22)])) (.c (.q 24 [] (.mv (.t 7))) (.c (.e (some 25) [] (.app 69 3 1 8 [(.int .i64 0)] 69 (.t 23) (.t 24))) (.c (.e (some 26) [] (.bsl 69 1 [(.t 25)])) (.c (.e (some 27) [] (.app 118 69 1 24 [(.slice none 0 0)] 118 (.t 21) (.t 26))) (.c (.q 5 [] (.mv (.t 27))) .nil)))))))))
def t110_2 := b110_2
theorem u110_2 : vcK P t110_2 k e w = vcK P b110_2 k e w := rfl
abbrev b110_3 : X := (.reg [0, 1, 5, 15, 16, 17] (.c (.q 28 [] (.bin .add (.t 17) (.c (.int .i64 1)))) (.c (.q 17 [] (.mv (.t 28))) .nil)))
def t110_3 := b110_3
theorem u110_3 : vcK P t110_3 k e w = vcK P b110_3 k e w := rfl
abbrev b110_4 : X := (.seq (.blk 1 (.seq (.reg [0, 1, 5, 7, 15, 16, 17] (.c (.q 19 [] (.ia 1 (.t 15) (.t 17))) (.c (.q 20 [] (.ld (.t 19))) (.c (.q 7 [] (.mv (.t 20))) .nil)))) t110_2)) t110_3)
def t110_4 := b110_4
theorem u110_4 : vcK P t110_4 k e w = vcK P b110_4 k e w := rfl
abbrev b110_5 : X := (.seq (.cond (.t 18) .skip (.exit 0)) t110_4)
def t110_5 := b110_5
theorem u110_5 : vcK P t110_5 k e w = vcK P b110_5 k e w := rfl
abbrev b110_6 : X := (.seq (.reg [0, 1, 5, 15, 16, 17, 18] (.c (.q 18 [] (.bin .lss (.t 17) (.t 16))) .nil)) t110_5)
def t110_6 := b110_6
theorem u110_6 : vcK P t110_6 k e w = vcK P b110_6 k e w := rfl
abbrev b110_7 : X := (.blk 0 (.loop [5, 17] [0, 1, 15, 16] t110_6))
def t110_7 := b110_7
theorem u110_7 : vcK P t110_7 k e w = vcK P b110_7 k e w := rfl
abbrev b110_8 : X := (.cond (.t 31) (.reg [5] (.c (.q 32 [] (.mv (.t 5))) (.c (.q 33 [] (.mv (.t 0))) (.c (.q 34 [] (.mv (.t 1))) (.c (.q 35 [] (.bin .add (.t 34) (.c (.int .i64 2)))) (.c (.e (some 36) [] (.call false 110 [(.t 33), (.t 35)])) (.c (.e (some 37) [] (.app 118 69 1 24 [(.slice none 0 0)] 118 (.t 32) (.t 36))) (.c (.q 5 [] (.mv (.t 37))) .nil)))))))) .skip)
def t110_8 := b110_8
theorem u110_8 : vcK P t110_8 k e w = vcK P b110_8 k e w := rfl
abbrev b110_9 : X := (.seq (.reg [4] (.c (.q 38 [] (.mv (.t 5))) (.c (.q 4 [] (.mv (.t 38))) .nil))) .ret)
def t110_9 := b110_9
theorem u110_9 : vcK P t110_9 k e w = vcK P b110_9 k e w := rfl
abbrev b110_10 : X := (.seq (.seq (.reg [0, 1, 5, 31] (.c (.q 29 [] (.mv (.t 1))) (.c (.q 30 [] (.mv (.t 0))) (.c (.q 31 [] (.bin .lss (.t 29) (.t 30))) .nil)))) t110_8) t110_9)
def t110_10 := b110_10
theorem u110_10 : vcK P t110_10 k e w = vcK P b110_10 k e w := rfl
abbrev b110_11 : X := (.seq (.seq (.reg [0, 1, 5, 15, 16, 17] (.c (.q 12 [] (.mv (.t 0))) (.c (.q 13 [] (.mv (.t 1))) (.c (.q 14 [] (.bin .add (.t 13) (.c (.int .i64 1)))) (.c (.e (some 15) [] (.call false 110 [(.t 12), (.t 14)])) (.c (.q 16 [] (.lens (.t 15))) (.c (.q 17 [] (.mv (.c (.int .i64 0)))) .nil))))))) t110_7) t110_10)
def t110_11 := b110_11
theorem u110_11 : vcK P t110_11 k e w = vcK P b110_11 k e w := rfl
abbrev b110_12 : X := (.seq (.reg [0, 1, 5] (.c (.q 5 [] (.mv (.c (.slice none 0 0)))) .nil)) t110_11)
def t110_12 := b110_12
theorem u110_12 : vcK P t110_12 k e w = vcK P b110_12 k e w := rfl
abbrev b110_13 : X := (.seq (.seq (.reg [0, 1, 10] (.c (.q 8 [] (.mv (.t 1))) (.c (.q 9 [] (.mv (.t 0))) (.c (.q 10 [] (.bin .gtr (.t 8) (.t 9))) .nil)))) t110_1) t110_12)
def t110_13 := b110_13
theorem u110_13 : vcK P t110_13 k e w = vcK P b110_13 k e w := rfl
abbrev b110_0 : X := (.seq (.reg [0, 1] (.c (.q 4 [] (.mv (.c (.slice none 0 0)))) .nil)) t110_13)
def x_sl2From := b110_0
theorem u110_0 : vcK P x_sl2From k e w = vcK P b110_0 k e w := rfl
def r_sl2From : List XO := [(.mv (.t 4))]
theorem c_sl2From : convF Try.prog [38, 39, 41, 42, 49, 54, 55, 57, 58, 59, 73, 79, 81, 84, 87, 139] Try.f110 [([0, 1], []), ([0, 1, 10], []), ([4], []), ([0, 1, 5], []), ([0, 1, 5, 15, 16, 17], []), ([5, 17], [0, 1, 15, 16]), ([0, 1, 5, 15, 16, 17, 18], []), ([0, 1, 5, 7, 15, 16, 17], []), ([0, 1, 5, 15, 16, 17], []), ([0, 1, 5, 15, 16, 17], []), ([0, 1, 5, 31], []), ([5], []), ([4], [])] = some (x_sl2From, r_sl2From) := by kernel_rfl
def us_sl2From :=  (aI (aI (aI @u110_0 (aI @u110_1 @u110_2)) (aI (aI @u110_3 @u110_4) (aI @u110_5 @u110_6))) (aI (aI @u110_7 (aI @u110_8 @u110_9)) (aI (aI @u110_10 @u110_11) (aI @u110_12 @u110_13))))
abbrev b99_1 : X := (.cond (.t 20) (.exit 1) .skip)
def t99_1 := b99_1
theorem u99_1 : vcK P t99_1 k e w = vcK P b99_1 k e w := rfl
abbrev b99_2 : X := (.cond (.t 37) .skip (.exit 2))
def t99_2 := b99_2
theorem u99_2 : vcK P t99_2 k e w = vcK P b99_2 k e w := rfl
abbrev b99_3 : X := (.reg [0, 3, 6, 7, 9, 10, 11] (.c (.q 46 [] (.mv (.t 7))) (.c (.q 47 [] (.bin .sub (.t 46) (.c (.int .i64 1)))) (.c (.q 7 [] (.mv (.t 47))) .nil))))
def t99_3 := b99_3
theorem u99_3 : vcK P t99_3 k e w = vcK P b99_3 k e w := rfl
abbrev b99_4 : X := (.blk 3 (.seq (.reg [0, 3, 6, 7, 9, 10, 11] (.c (.q 38 [] (.mv (.t 3))) (.c (.q 39 [] (.mv (.t 7))) (.c (.q 40 [] (.mv (.t 3))) (.c (.q 41 [] (.mv (.t 7))) (.c (.q 42 [] (.bin .sub (.t 41) (.c (.int .i64 1)))) (.c (.q 43 [] (.ia 1 (.t 40) (.t 42))) (.c (.q 44 [] (.ld (.t 43))) (.c (.q 45 [] (.ia 1 (.t 38) (.t 39))) (.c (.e none [] (.st 1 (.t 45) (.t 44))) .nil)))))))))) t99_3))
def t99_4 := b99_4
theorem u99_4 : vcK P t99_4 k e w = vcK P b99_4 k e w := rfl
abbrev b99_5 : X := (.seq (.seq (.reg [0, 3, 6, 7, 9, 10, 11, 37] (.c (.q 27 [] (.mv (.t 7))) (.c (.q 28 [] (.bin .gtr (.t 27) (.c (.int .i64 0)))) (.c (.q 29 [] (.mv (.t 28))) (.c (.q 30 [(29, true)] (.mv (.t 3))) (.c (.q 31 [(29, true)] (.mv (.t 7))) (.c (.q 32 [(29, true)] (.bin .sub (.t 31) (.c (.int .i64 1)))) (.c (.q 33 [(29, true)] (.ia 1 (.t 30) (.t 32))) (.c (.q 34 [(29, true)] (.ld (.t 33))) (.c (.q 35 [(29, true)] (.mv (.t 6))) (.c (.q 36 [(29, true)] (.bin .gtr (.t 34) (.t 35))) (.c (.q 37 [] (.pick (.t 29) (.t 36) (.c (.bool false)))) .nil)))))))))))) t99_2) t99_4)
def t99_5 := b99_5
theorem u99_5 : vcK P t99_5 k e w = vcK P b99_5 k e w := rfl
abbrev b99_6 : X := (.reg [0, 3, 9, 10, 11] (.c (.q 48 [] (.mv (.t 3))) (.c (.q 49 [] (.mv (.t 7))) (.c (.q 50 [] (.mv (.t 6))) (.c (.q 51 [] (.ia 1 (.t 48) (.t 49))) (.c (.e none [] (.st 1 (.t 51) (.t 50))) .nil))))))
def t99_6 := b99_6
theorem u99_6 : vcK P t99_6 k e w = vcK P b99_6 k e w := rfl
abbrev b99_7 : X := (.seq (.blk 2 (.loop [7] [0, 3, 6, 9, 10, 11] t99_5)) t99_6)
def t99_7 := b99_7
theorem u99_7 : vcK P t99_7 k e w = vcK P b99_7 k e w := rfl
abbrev b99_8 : X := (.seq (.reg [0, 3, 6, 7, 9, 10, 11] (.c (.q 23 [] (.mv (.t 3))) (.c (.q 24 [] (.mv (.t 6))) (.c (.e (some 25) [] (.bsl 9 1 [(.t 24)])) (.c (.e (some 26) [] (.app 24 9 1 16 [(S [])] 24 (.t 23) (.t 25))) (.c (.q 3 [] (.mv (.t 26))) .nil)))))) t99_7)
def t99_8 := b99_8
theorem u99_8 : vcK P t99_8 k e w = vcK P b99_8 k e w := rfl
abbrev b99_9 : X := (.seq (.reg [0, 3, 6, 7, 9, 10, 11] (.c (.q 21 [] (.mv (.t 3))) (.c (.q 22 [] (.lens (.t 21))) (.c (.q 7 [] (.mv (.t 22))) .nil)))) t99_8)
def t99_9 := b99_9
theorem u99_9 : vcK P t99_9 k e w = vcK P b99_9 k e w := rfl
abbrev b99_10 : X := (.seq (.seq (.reg [0, 3, 6, 9, 10, 11, 20] (.c (.q 17 [] (.mv (.t 0))) (.c (.q 18 [] (.mv (.t 6))) (.c (.e (some 19) [] (.call false 76 [(.t 17), (.t 18)])) (.c (.q 20 [] (.not (.t 19))) .nil))))) t99_1) t99_9)
def t99_10 := b99_10
theorem u99_10 : vcK P t99_10 k e w = vcK P b99_10 k e w := rfl
abbrev b99_11 : X := (.seq (.reg [0, 3, 6, 9, 10, 11] (.c (.q 15 [] (.mv (.t 5))) (.c (.e (some 16) [] (.call false 111 [(.t 15)])) (.c (.q 6 [] (.mv (.t 16))) .nil)))) t99_10)
def t99_11 := b99_11
theorem u99_11 : vcK P t99_11 k e w = vcK P b99_11 k e w := rfl
abbrev b99_12 : X := (.reg [0, 3, 9, 10, 11] (.c (.q 52 [] (.bin .add (.t 11) (.c (.int .i64 1)))) (.c (.q 11 [] (.mv (.t 52))) .nil)))
def t99_12 := b99_12
theorem u99_12 : vcK P t99_12 k e w = vcK P b99_12 k e w := rfl
abbrev b99_13 : X := (.seq (.blk 1 (.seq (.reg [0, 3, 5, 9, 10, 11] (.c (.q 13 [] (.ia 1 (.t 9) (.t 11))) (.c (.q 14 [] (.ld (.t 13))) (.c (.q 5 [] (.mv (.t 14))) .nil)))) t99_11)) t99_12)
def t99_13 := b99_13
theorem u99_13 : vcK P t99_13 k e w = vcK P b99_13 k e w := rfl
abbrev b99_14 : X := (.seq (.cond (.t 12) .skip (.exit 0)) t99_13)
def t99_14 := b99_14
theorem u99_14 : vcK P t99_14 k e w = vcK P b99_14 k e w := rfl
abbrev b99_15 : X := (.seq (.reg [0, 3, 9, 10, 11, 12] (.c (.q 12 [] (.bin .lss (.t 11) (.t 10))) .nil)) t99_14)
def t99_15 := b99_15
theorem u99_15 : vcK P t99_15 k e w = vcK P b99_15 k e w := rfl
abbrev b99_16 : X := (.blk 0 (.loop [3, 11] [0, 9, 10] t99_15))
def t99_16 := b99_16
theorem u99_16 : vcK P t99_16 k e w = vcK P b99_16 k e w := rfl
abbrev b99_17 : X := (.seq (.reg [2] (.c (.q 53 [] (.mv (.t 3))) (.c (.q 2 [] (.mv (.t 53))) .nil))) .ret)
def t99_17 := b99_17
theorem u99_17 : vcK P t99_17 k e w = vcK P b99_17 k e w := rfl
abbrev b99_18 : X := (.seq (.seq (.reg [0, 3, 9, 10, 11] (.c (.q 8 [] (.mv (.t 0))) (.c (.e (some 9) [] (.call false 110 [(.t 8), (.c (.int .i64 1))])) (.c (.q 10 [] (.lens (.t 9))) (.c (.q 11 [] (.mv (.c (.int .i64 0)))) .nil))))) t99_16) t99_17)
def t99_18 := b99_18
theorem u99_18 : vcK P t99_18 k e w = vcK P b99_18 k e w := rfl
abbrev b99_19 : X := (.seq (.reg [0, 3] (.c (.q 3 [] (.mv (.c (.slice none 0 0)))) .nil)) t99_18)
def t99_19 := b99_19
theorem u99_19 : vcK P t99_19 k e w = vcK P b99_19 k e w := rfl
abbrev b99_0 : X := (.seq (.reg [0] (.c (.q 2 [] (.mv (.c (.slice none 0 0)))) .nil)) t99_19)
def x_sl2All := b99_0
theorem u99_0 : vcK P x_sl2All k e w = vcK P b99_0 k e w := rfl
def r_sl2All : List XO := [(.mv (.t 2))]
theorem c_sl2All : convF Try.prog [38, 39, 41, 42, 49, 54, 55, 57, 58, 59, 73, 79, 81, 84, 87, 139] Try.f99 [([0], []), ([0, 3], []), ([0, 3, 9, 10, 11], []), ([3, 11], [0, 9, 10]), ([0, 3, 9, 10, 11, 12], []), ([0, 3, 5, 9, 10, 11], []), ([0, 3, 6, 9, 10, 11], []), ([0, 3, 6, 9, 10, 11, 20], []), ([0, 3, 6, 7, 9, 10, 11], []), ([0, 3, 6, 7, 9, 10, 11], []), ([7], [0, 3, 6, 9, 10, 11]), ([0, 3, 6, 7, 9, 10, 11, 37], []), ([0, 3, 6, 7, 9, 10, 11], []), ([0, 3, 6, 7, 9, 10, 11], []), ([0, 3, 9, 10, 11], []), ([0, 3, 9, 10, 11], []), ([2], [])] = some (x_sl2All, r_sl2All) := by kernel_rfl
def us_sl2All :=  (aI (aI (aI (aI @u99_0 @u99_1) (aI @u99_2 (aI @u99_3 @u99_4))) (aI (aI @u99_5 @u99_6) (aI @u99_7 (aI @u99_8 @u99_9)))) (aI (aI (aI @u99_10 @u99_11) (aI @u99_12 (aI @u99_13 @u99_14))) (aI (aI @u99_15 @u99_16) (aI @u99_17 (aI @u99_18 @u99_19)))))
abbrev b81_1 : X := (.seq (.reg [4] (.c (.q 8 [] (.mv (.t 5))) (.c (.q 9 [] (.mv (.t 0))) (.c (.q 10 [] (.mv (.t 5))) (.c (.q 11 [] (.lens (.t 10))) (.c (.e (some 12) [] (.call true 39 [(.t 9), (.t 11)])) (.c (.q 13 [] (.ia 1 (.t 8) (.t 12))) (.c (.q 14 [] (.ld (.t 13))) (.c (.q 4 [] (.mv (.t 14))) .nil))))))))) .ret)
def t81_1 := b81_1
theorem u81_1 : vcK P t81_1 k e w = vcK P b81_1 k e w := rfl
abbrev b81_2 : X := (.seq (.reg [0, 5] (.c (.q 6 [] (.mv (.t 1))) (.c (.e (some 7) [] (.call false 99 [(.t 6)])) (.c (.q 5 [] (.mv (.t 7))) .nil)))) t81_1)
def t81_2 := b81_2
theorem u81_2 : vcK P t81_2 k e w = vcK P b81_2 k e w := rfl
abbrev b81_0 : X := (.seq (.reg [0, 1] (.c (.q 4 [] (.mv (.s []))) .nil)) t81_2)
def x_sl1Cur_change := b81_0
theorem u81_0 : vcK P x_sl1Cur_change k e w = vcK P b81_0 k e w := rfl
def r_sl1Cur_change : List XO := [(.mv (.t 4))]
theorem c_sl1Cur_change : convF Try.prog [38, 39, 41, 42, 49, 54, 55, 57, 58, 59, 73, 79, 81, 84, 87, 139] Try.f81 [([0, 1], []), ([0, 5], []), ([4], [])] = some (x_sl1Cur_change, r_sl1Cur_change) := by kernel_rfl
def us_sl1Cur_change :=  (aI @u81_0 (aI @u81_1 @u81_2))
abbrev b78_1 : X := (.seq (.reg [2] (.c (.e (some 3) [] (.bsl 9 1 [])) (.c (.q 4 [] (.mv (.t 0))) (.c (.e (some 5) [] (.app 24 9 1 16 [(S [])] 24 (.t 3) (.t 4))) (.c (.q 2 [] (.mv (.t 5))) .nil))))) .ret)
def t78_1 := b78_1
theorem u78_1 : vcK P t78_1 k e w = vcK P b78_1 k e w := rfl
abbrev b78_0 : X := (.seq (.reg [0] (.c (.q 2 [] (.mv (.c (.slice none 0 0)))) .nil)) t78_1)
def x_sl1OwnS := b78_0
theorem u78_0 : vcK P x_sl1OwnS k e w = vcK P b78_0 k e w := rfl
def r_sl1OwnS : List XO := [(.mv (.t 2))]
theorem c_sl1OwnS : convF Try.prog [38, 39, 41, 42, 49, 54, 55, 57, 58, 59, 73, 79, 81, 84, 87, 139] Try.f78 [([0], []), ([2], [])] = some (x_sl1OwnS, r_sl1OwnS) := by kernel_rfl
def us_sl1OwnS :=  (aI @u78_0 @u78_1)
end
theorem sl1Num_dig (n : Nat) (hn : n < 10) (w : World) : Fn 80 [.int .i64 n] w (fun r _ => r = S [UInt8.ofNat (48 + n)]) := by
  (refine callsV_of mix Try.func80 c_sl1Num ?_; simp only [↓vsd, vsn, gW, qd, qv, ev, pick, argE, zipE, ne_eq, eq_self, forall_const, implies_true, if_true, if_false, reduceIte, reduceCtorEq, Nat.reduceEqDiff, Nat.reduceAdd, Nat.reduceLT, ↓us_sl1Num, r_sl1Num])
  have hI : (n : Int) < 10 := by omega
  have e : (48 : Int) + (n : Nat) = ((UInt8.ofNat (48 + n)).toNat : Nat) := by rw [u8_nat (by omega)]; omega
  have hb := (UInt8.ofNat (48 + n)).toNat_lt
  have hI' : ¬ 10 ≤ (n : Int) := by omega
  simp only [↓vsd, vsn, gW, qd, qv, ev, pick, argE, zipE, ne_eq, eq_self, forall_const, implies_true, if_true, if_false, reduceIte, reduceCtorEq, Nat.reduceEqDiff, Nat.reduceAdd, Nat.reduceLT, ↓us_sl1Num, r_sl1Num, hI, hI', e]
  refine ⟨inR_u8 (by omega), m_bsl (one_el rfl) ?_⟩
  rintro b w1 hb1 hblk hx1 hs1
  simp only [↓vsd, vsn, gW, qd, qv, ev, pick, argE, zipE, ne_eq, eq_self, forall_const, implies_true, if_true, if_false, reduceIte, reduceCtorEq, Nat.reduceEqDiff, Nat.reduceAdd, Nat.reduceLT, ↓us_sl1Num, r_sl1Num]
  refine m_b2s (l := [UInt8.ofNat (48 + n)]) (Sq.one (f := fU) fU_len hblk rfl) ?_
  simp only [↓vsd, vsn, gW, qd, qv, ev, pick, argE, zipE, ne_eq, eq_self, forall_const, implies_true, if_true, if_false, reduceIte, reduceCtorEq, Nat.reduceEqDiff, Nat.reduceAdd, Nat.reduceLT, ↓us_sl1Num, r_sl1Num]
  exact hx1
theorem ofL_take (l : List Int) (k : Nat) (h : k < l.length) : ((l.take (k + 1)).map fun p => UInt8.ofNat (48 + p.toNat)) = ((l.take k).map fun p => UInt8.ofNat (48 + p.toNat)) ++ [UInt8.ofNat (48 + (l.getD k 0).toNat)] := by
  rw [List.take_add_one, List.getElem?_eq_getElem h, List.getD_eq_getElem?_getD, List.getElem?_eq_getElem h, List.map_append]
  rfl
theorem sl2Of_ok (v : Value) (l : List Int) (hl : l.length ≤ 100) (hp : ∀ x ∈ l, 0 ≤ x ∧ x ≤ 9) (w : World) (h : Sq fI 1 w v l) : Fn 111 [v] w (fun r _ => r = S (ofL l)) := by
  (refine callsV_of mix Try.func111 c_sl2Of ?_; simp only [↓vsd, vsn, gW, qd, qv, ev, pick, argE, zipE, ne_eq, eq_self, forall_const, implies_true, if_true, if_false, reduceIte, reduceCtorEq, Nat.reduceEqDiff, Nat.reduceAdd, Nat.reduceLT, ↓us_sl2Of, r_sl2Of])
  simp only [↓vsd, vsn, gW, qd, qv, ev, pick, argE, zipE, ne_eq, eq_self, forall_const, implies_true, if_true, if_false, reduceIte, reduceCtorEq, Nat.reduceEqDiff, Nat.reduceAdd, Nat.reduceLT, ↓us_sl2Of, r_sl2Of, h.facts]
  refine m_upto l.length (fun k vs w' => vs = [S ((l.take k).map fun p => UInt8.ofNat (48 + p.toNat)), .int .i64 k] ∧ Ext w w') ⟨rfl, Ext.refl _⟩ ?_
  rintro k vs w1 hk ⟨rfl, hx⟩
  have hq := h.ext hx
  by_cases hlt : k < l.length
  · have hltI : (k : Int) < l.length := by omega
    have hltJ : ¬ (l.length : Int) ≤ k := by omega
    have hm := hp _ (getD_mem 0 hlt)
    obtain ⟨p, hpe⟩ : ∃ p : Nat, l.getD k 0 = p := ⟨(l.getD k 0).toNat, by omega⟩
    have hs := ofL_take l k hlt
    rw [hpe] at hm hs
    simp only [↓vsd, vsn, gW, qd, qv, ev, pick, argE, zipE, ne_eq, eq_self, forall_const, implies_true, if_true, if_false, reduceIte, reduceCtorEq, Nat.reduceEqDiff, Nat.reduceAdd, Nat.reduceLT, ↓us_sl2Of, r_sl2Of, hq.facts, hltI, hltJ, hq.at1 0 hlt, hpe]
    refine ⟨by omega, m_call (sl1Num_dig p (by omega) _) ?_⟩
    rintro _ w2 hx2 rfl
    simp only [↓vsd, vsn, gW, qd, qv, ev, pick, argE, zipE, ne_eq, eq_self, forall_const, implies_true, if_true, if_false, reduceIte, reduceCtorEq, Nat.reduceEqDiff, Nat.reduceAdd, Nat.reduceLT, ↓us_sl2Of, r_sl2Of]
    refine ⟨by simp; omega, inR_i64 (by omega), UpTo.next hlt ⟨?_, by first | exact hx.trans hx2 | exact hx.trans (ud hx2)⟩⟩
    rw [hs]; rfl
  · obtain rfl : k = l.length := by omega
    have hltI : ¬ (l.length : Int) < l.length := by omega
    simp only [↓vsd, vsn, gW, qd, qv, ev, pick, argE, zipE, ne_eq, eq_self, forall_const, implies_true, if_true, if_false, reduceIte, reduceCtorEq, Nat.reduceEqDiff, Nat.reduceAdd, Nat.reduceLT, ↓us_sl2Of, r_sl2Of, hq.facts, hltI]
    rw [List.take_length]
    refine ⟨fun he => ⟨hx, ?_⟩, fun he => ⟨hx, ?_⟩⟩
    · rw [List.map_eq_nil_iff] at he
      rw [ofL, if_pos he]
    · rw [ofL, if_neg (fun e => he (by rw [e]; rfl))]
theorem nest_split {w : World} {o : Value} {ls : List (List Int)} {Q : Nat → Prop} (h : NestP fI 3 69 Q w o ls) : ∃ vs : List SV, Sq fSV 1 w o vs ∧ vs.length = ls.length ∧ ∀ i < ls.length, Sq fI 1 w (vs.getD i SV.nil).v (ls.getD i []) := h.sq
theorem map_take_succ {α β : Type} (f : α → β) (d : α) (l : List α) (k : Nat) (h : k < l.length) : (l.take (k + 1)).map f = (l.take k).map f ++ [f (l.getD k d)] := by
  rw [List.take_add_one, List.getElem?_eq_getElem h, List.getD_eq_getElem?_getD, List.getElem?_eq_getElem h, List.map_append]
  rfl
theorem nest_one {α : Type} {f : α → List Value} {E1 E2 : TypeId} {Q : Nat → Prop} {w : World} {b : Nat} {s : SV} {l : List α} (hb : Blk w b [s.v] E2) (hQ : Q b) (hi : Own f 1 E1 0 w s.v l) (hs : ∀ c, s.v.ownBlock = some c → Q c ∧ b ≠ c) :
    NestP f E1 E2 Q w (.slice (some ⟨b, 0, none⟩) 1 1) [l] := by
  refine ⟨[s], ⟨fSV_len, .inr ⟨b, 1, [s.v], rfl, Nat.zero_le _, hb, Nat.le_refl _, by decide, rfl, rfl⟩⟩, fun c hc => ?_, rfl, fun i hi' => ?_⟩
  · simp only [Value.ownBlock, Option.some.injEq] at hc
    rw [← hc]; exact hQ
  · simp only [List.length_singleton] at hi'
    obtain rfl : i = 0 := by omega
    exact ⟨hi, fun c hc => ⟨(hs c hc).1, fun e => (hs c hc).2 (by simp only [Value.ownBlock, Option.some.injEq] at e; exact e)⟩⟩
theorem ext_grow' {w0 w w' : World} {r : Option Nat} (hx : Ext w0 w) (hg : w.grownBy w' r) (hr : ∀ c, r = some c → w0.heap.size ≤ c) : Ext w0 w' := by
  have hs := hx.size
  exact Below.trans hx ⟨hg.os, hg.tape, hg.output, hg.size, fun i hi => hg.block i (by omega) fun he => by have := hr i he.symm; omega⟩
theorem sl2From_ok (n : Nat) (hn : n ≤ 8) : ∀ (f : Nat), f ≤ 8 → ∀ (p : Nat), 1 ≤ p → p ≤ 10 → n + 1 - p ≤ f → ∀ w, Fn 110 [.int .i64 n, .int .i64 p] w (fun r w' => NestP fI 3 69 (fun c => w.heap.size ≤ c) w' r (fromG n f p)) := by
  have base : ∀ (f p : Nat), n < p → fromG n f p = [[]] → ∀ w, Fn 110 [.int .i64 n, .int .i64 p] w (fun r w' => NestP fI 3 69 (fun c => w.heap.size ≤ c) w' r (fromG n f p)) := by
    intro f p hlt hf w
    have hI : (n : Int) < p := by omega
    have hJ : ¬ (p : Int) ≤ n := by omega
    (refine callsV_of mix Try.func110 c_sl2From ?_; simp only [↓vsd, vsn, gW, qd, qv, ev, pick, argE, zipE, ne_eq, eq_self, forall_const, implies_true, if_true, if_false, reduceIte, reduceCtorEq, Nat.reduceEqDiff, Nat.reduceAdd, Nat.reduceLT, ↓us_sl2From, r_sl2From])
    simp only [↓vsd, vsn, gW, qd, qv, ev, pick, argE, zipE, ne_eq, eq_self, forall_const, implies_true, if_true, if_false, reduceIte, reduceCtorEq, Nat.reduceEqDiff, Nat.reduceAdd, Nat.reduceLT, ↓us_sl2From, r_sl2From, hI, hJ]
    refine m_bsl (one_el rfl) ?_
    rintro b w1 hb hblk hx1 hs1
    simp only [↓vsd, vsn, gW, qd, qv, ev, pick, argE, zipE, ne_eq, eq_self, forall_const, implies_true, if_true, if_false, reduceIte, reduceCtorEq, Nat.reduceEqDiff, Nat.reduceAdd, Nat.reduceLT, ↓us_sl2From, r_sl2From]
    refine ⟨hx1, ?_⟩
    rw [hf]
    exact nest_one (s := SV.nil) hblk (by omega) (Own.nil fI_len) (fun c hc => by cases hc)
  intro f
  induction f with
  | zero =>
    intro hf p hp hp2 hnp w
    exact base 0 p (by omega) rfl w
  | succ f ih =>
    intro hf p hp hp2 hnp w
    by_cases hlt : n < p
    · exact base (f + 1) p hlt (by rw [fromG, if_pos hlt]) w
    · have hI : ¬ (n : Int) < p := by omega
      have hJ : (p : Int) ≤ n := by omega
      (refine callsV_of mix Try.func110 c_sl2From ?_; simp only [↓vsd, vsn, gW, qd, qv, ev, pick, argE, zipE, ne_eq, eq_self, forall_const, implies_true, if_true, if_false, reduceIte, reduceCtorEq, Nat.reduceEqDiff, Nat.reduceAdd, Nat.reduceLT, ↓us_sl2From, r_sl2From])
      simp only [↓vsd, vsn, gW, qd, qv, ev, pick, argE, zipE, ne_eq, eq_self, forall_const, implies_true, if_true, if_false, reduceIte, reduceCtorEq, Nat.reduceEqDiff, Nat.reduceAdd, Nat.reduceLT, ↓us_sl2From, r_sl2From, hI, hJ]
      have e1 : (p : Int) + 1 = (p + 1 : Nat) := rfl
      have e2 : (p : Int) + 2 = (p + 2 : Nat) := rfl
      rw [e1]
      refine ⟨inR_i64 (by omega), m_call (ih (by omega) (p + 1) (by omega) (by omega) (by omega) w) ?_⟩
      rintro t1 w1 hx1 hN1
      obtain ⟨us, hq1, hul, hin⟩ := nest_split hN1
      have hfl := fromG_len n f (p + 1)
      have hf8 : 2 ^ f ≤ 2 ^ 8 := Nat.pow_le_pow_right (by decide) (by omega)
      have hf9 : (2 : Nat) ^ 8 = 256 := by decide
      simp only [↓vsd, vsn, gW, qd, qv, ev, pick, argE, zipE, ne_eq, eq_self, forall_const, implies_true, if_true, if_false, reduceIte, reduceCtorEq, Nat.reduceEqDiff, Nat.reduceAdd, Nat.reduceLT, ↓us_sl2From, r_sl2From, hq1.facts, hul]
      refine m_upto (fromG n f (p + 1)).length (fun k vs w' => ∃ o, vs = [o, .int .i64 k] ∧ NestP fI 3 69 (fun c => w1.heap.size ≤ c) w' o (((fromG n f (p + 1)).take k).map fun r => (p : Int) :: r) ∧ Ext w1 w') ⟨_, rfl, NestP.nil, Ext.refl _⟩ ?_
      rintro k vs w2 hk ⟨o, rfl, hn2, hx2⟩
      by_cases hkl : k < (fromG n f (p + 1)).length
      · have hkI : (k : Int) < (fromG n f (p + 1)).length := by omega
        have hkJ : ¬ ((fromG n f (p + 1)).length : Int) ≤ k := by omega
        have hku : k < us.length := by omega
        have hq2 := hq1.ext hx2
        have hin2 := (hin k hkl).ext hx2
        have hrl := (fromG_mem n f (p + 1) (by omega) _ (getD_mem [] hkl)).1
        simp only [↓vsd, vsn, gW, qd, qv, ev, pick, argE, zipE, ne_eq, eq_self, forall_const, implies_true, if_true, if_false, reduceIte, reduceCtorEq, Nat.reduceEqDiff, Nat.reduceAdd, Nat.reduceLT, ↓us_sl2From, r_sl2From, hq2.facts, hul, hkI, hkJ, hq2.at1 SV.nil hku, fSV_get]
        refine ⟨by omega, m_bsl (one_el rfl) ?_⟩
        rintro b3 w3 hb3 hblk3 hx3 hs3
        have hx3 : Ext w2 w3 := by first | exact hx3 | exact ud hx3
        have hb3 : b3 = w2.heap.size := hb3
        simp only [↓vsd, vsn, gW, qd, qv, ev, pick, argE, zipE, ne_eq, eq_self, forall_const, implies_true, if_true, if_false, reduceIte, reduceCtorEq, Nat.reduceEqDiff, Nat.reduceAdd, Nat.reduceLT, ↓us_sl2From, r_sl2From]
        have hone : Own fI 1 3 w2.heap.size w3 (.slice (some ⟨b3, 0, none⟩) 1 1) [(p : Int)] := Own.one fI_len hblk3 rfl (by omega)
        refine m_app2 hone (hin2.ext hx3) fI_one (by decide) (by simp only [List.length_singleton]; omega) (by decide) hx3.size ?_
        rintro u4 w4 hu4 hg4 hb4
        have hx4 : Ext w2 w4 := ext_grow' hx3 hg4 (fun c hc => (hone.bound c hc).1)
        obtain ⟨s4, rfl⟩ := hu4.sq.sv
        simp only [↓vsd, vsn, gW, qd, qv, ev, pick, argE, zipE, ne_eq, eq_self, forall_const, implies_true, if_true, if_false, reduceIte, reduceCtorEq, Nat.reduceEqDiff, Nat.reduceAdd, Nat.reduceLT, ↓us_sl2From, r_sl2From]
        refine m_bsl (one_el s4.csize) ?_
        rintro b5 w5 hb5 hblk5 hx5 hs5
        have hx25 := hx4.trans hx5
        simp only [↓vsd, vsn, gW, qd, qv, ev, pick, argE, zipE, ne_eq, eq_self, forall_const, implies_true, if_true, if_false, reduceIte, reduceCtorEq, Nat.reduceEqDiff, Nat.reduceAdd, Nat.reduceLT, ↓us_sl2From, r_sl2From]
        refine m_push (s := s4) (hn2.ext hx25) (Sq.one fSV_len hblk5 rfl) (hu4.zero.ext hx5) (fun c hc => ⟨by have := (hu4.bound c hc).1; have := hx2.size; omega, fun e => by
            obtain ⟨vs', ho', _⟩ := hn2
            have h1 := ho'.lt c e
            have h2 := (hu4.bound c hc).1
            omega⟩) (fun c hc => by have := (hx2.trans hx25).size; omega) (by rw [List.length_map, List.length_take]; omega) rfl (by decide) ?_
        rintro o6 w6 hn6 hg6 _
        have hx6 : Ext w1 w6 := ext_grow' (hx2.trans hx25) hg6 (fun c hc => by
          obtain ⟨vs', _, hQ', _⟩ := hn2
          exact hQ' c hc)
        simp only [↓vsd, vsn, gW, qd, qv, ev, pick, argE, zipE, ne_eq, eq_self, forall_const, implies_true, if_true, if_false, reduceIte, reduceCtorEq, Nat.reduceEqDiff, Nat.reduceAdd, Nat.reduceLT, ↓us_sl2From, r_sl2From]
        refine ⟨inR_i64 (by omega), UpTo.next hkl ⟨o6, rfl, hn6.to ?_, hx6⟩⟩
        rw [map_take_succ _ [] _ _ hkl]
        rfl
      · obtain rfl : k = (fromG n f (p + 1)).length := by omega
        have hkI : ¬ ((fromG n f (p + 1)).length : Int) < (fromG n f (p + 1)).length := by omega
        rw [List.take_length] at hn2
        by_cases hpn : p < n
        · have hpI : (p : Int) < n := by omega
          have hpJ : ¬ (n : Int) ≤ p := by omega
          simp only [↓vsd, vsn, gW, qd, qv, ev, pick, argE, zipE, ne_eq, eq_self, forall_const, implies_true, if_true, if_false, reduceIte, reduceCtorEq, Nat.reduceEqDiff, Nat.reduceAdd, Nat.reduceLT, ↓us_sl2From, r_sl2From, hkI, hpI, hpJ]
          rw [e2]
          refine ⟨inR_i64 (by omega), m_call (ih (by omega) (p + 2) (by omega) (by omega) (by omega) _) ?_⟩
          rintro t3 w3 hx3 hN3
          simp only [↓vsd, vsn, gW, qd, qv, ev, pick, argE, zipE, ne_eq, eq_self, forall_const, implies_true, if_true, if_false, reduceIte, reduceCtorEq, Nat.reduceEqDiff, Nat.reduceAdd, Nat.reduceLT, ↓us_sl2From, r_sl2From]
          have hn3 := hn2.ext hx3
          have hfl2 := fromG_len n f (p + 2)
          refine m_extend (hn3.mono fun c hc => (show w.heap.size ≤ c by have := hx1.size; omega)) (hN3.mono fun c hc => ⟨by have := (hx1.trans hx2).size; omega, fun e => by
              obtain ⟨vs', ho', _⟩ := hn2
              have h1 := ho'.lt c e
              omega⟩) (fun c hc => by have := ((hx1.trans hx2).trans hx3).size; omega) (by rw [List.length_map]; omega) rfl (by decide) ?_
          rintro o4 w4 hn4 hg4 _
          have hx4 : Ext w w4 := ext_grow' ((hx1.trans hx2).trans hx3) hg4 (fun c hc => by
            obtain ⟨vs', _, hQ', _⟩ := hn2
            have h1 := hQ' c hc
            have := hx1.size; omega)
          simp only [↓vsd, vsn, gW, qd, qv, ev, pick, argE, zipE, ne_eq, eq_self, forall_const, implies_true, if_true, if_false, reduceIte, reduceCtorEq, Nat.reduceEqDiff, Nat.reduceAdd, Nat.reduceLT, ↓us_sl2From, r_sl2From]
          exact ⟨hx4, hn4.to (by rw [fromG, if_neg hlt, if_pos hpn])⟩
        · have hpI : ¬ (p : Int) < n := by omega
          simp only [↓vsd, vsn, gW, qd, qv, ev, pick, argE, zipE, ne_eq, eq_self, forall_const, implies_true, if_true, if_false, reduceIte, reduceCtorEq, Nat.reduceEqDiff, Nat.reduceAdd, Nat.reduceLT, ↓us_sl2From, r_sl2From, hkI, hpI]
          exact ⟨hx1.trans hx2, (hn2.mono fun c hc => (show w.heap.size ≤ c by have := hx1.size; omega)).to (by rw [fromG, if_neg hlt, if_neg hpn, List.append_nil])⟩
theorem sl1OwnS_ok (v : Value) (l : List (List UInt8)) (hl : l.length ≤ 1000000) (w : World) (h : Sq fS 1 w v l) : Fn 78 [v] w (fun r w' => Own fS 1 9 w.heap.size w' r l) := by
  (refine callsV_of mix Try.func78 c_sl1OwnS ?_; simp only [↓vsd, vsn, gW, qd, qv, ev, pick, argE, zipE, ne_eq, eq_self, forall_const, implies_true, if_true, if_false, reduceIte, reduceCtorEq, Nat.reduceEqDiff, Nat.reduceAdd, Nat.reduceLT, ↓us_sl1OwnS, r_sl1OwnS])
  refine m_bsl (by simp) ?_
  rintro b w1 hb hblk hx1 hs1
  simp only [↓vsd, vsn, gW, qd, qv, ev, pick, argE, zipE, ne_eq, eq_self, forall_const, implies_true, if_true, if_false, reduceIte, reduceCtorEq, Nat.reduceEqDiff, Nat.reduceAdd, Nat.reduceLT, ↓us_sl1OwnS, r_sl1OwnS]
  refine m_app (Own.empty (B := w.heap.size) fS_len hblk (by omega)) (h.ext hx1) fS_one (by decide) (by simp; omega) (by decide) hx1.size ?_
  rintro v2 w2 ho2 hg2
  simp only [↓vsd, vsn, gW, qd, qv, ev, pick, argE, zipE, ne_eq, eq_self, forall_const, implies_true, if_true, if_false, reduceIte, reduceCtorEq, Nat.reduceEqDiff, Nat.reduceAdd, Nat.reduceLT, ↓us_sl1OwnS, r_sl1OwnS]
  exact ⟨(Own.empty (B := w.heap.size) fS_len hblk (by omega)).grown hx1 (Nat.le_refl _) hg2, ho2⟩
theorem less_total : ∀ (a b : List UInt8), (!(Op.bytesLess a b || decide (a = b))) = Op.bytesLess b a := by
  intro a
  induction a with
  | nil => intro b; cases b <;> simp [Op.bytesLess]
  | cons x a ih =>
    intro b
    cases b with
    | nil => simp [Op.bytesLess]
    | cons y b =>
      simp only [Op.bytesLess]
      have h := ih b
      by_cases h1 : x < y
      · have h2 : ¬ y < x := fun h => by rw [UInt8.lt_iff_toNat_lt] at *; omega
        have h3 : ¬ y = x := fun h => by subst h; exact h2 h1
        simp [h1, h2, h3]
      · by_cases h2 : y < x
        · have h3 : ¬ x = y := fun h => by subst h; exact h1 h2
          simp [h1, h2, h3]
        · have h3 : x = y := UInt8.toNat_inj.1 (by rw [UInt8.lt_iff_toNat_lt] at *; omega)
          subst h3
          simp only [h1, decide_false, beq_self_eq_true, Bool.true_and, Bool.false_or, List.cons.injEq, true_and]
          exact h
theorem ins_set (l : List (List UInt8)) (x : List UInt8) (m : Nat) (hm : m < l.length) : (l.take (m + 1) ++ x :: l.drop (m + 1)).set (m + 1) (l.getD m []) = l.take m ++ l.getD m [] :: l.drop m := by
  have e1 : l.take (m + 1) = l.take m ++ [l.getD m []] := by
    rw [List.take_add_one, List.getElem?_eq_getElem hm, List.getD_eq_getElem?_getD, List.getElem?_eq_getElem hm]; rfl
  have e2 : l.drop m = l.getD m [] :: l.drop (m + 1) := by
    rw [List.drop_eq_getElem_cons hm, List.getD_eq_getElem?_getD, List.getElem?_eq_getElem hm]; rfl
  have hl : (l.take (m + 1)).length = m + 1 := by rw [List.length_take]; omega
  rw [List.set_append_right _ _ (by omega), hl, Nat.sub_self, e1, e2, List.append_assoc]
  rfl
theorem sl2All_ok (n : Nat) (hn : 3 ≤ n ∧ n ≤ 8) (w : World) : Fn 99 [.int .i64 n] w (fun r w' => Own fS 1 9 w.heap.size w' r (allL n)) := by
  (refine callsV_of mix Try.func99 c_sl2All ?_; simp only [↓vsd, vsn, gW, qd, qv, ev, pick, argE, zipE, ne_eq, eq_self, forall_const, implies_true, if_true, if_false, reduceIte, reduceCtorEq, Nat.reduceEqDiff, Nat.reduceAdd, Nat.reduceLT, ↓us_sl2All, r_sl2All])
  refine m_call (sl2From_ok n hn.2 n hn.2 1 (by omega) (by omega) (by omega) _) ?_
  rintro v1 w1 hx1 hN1
  obtain ⟨us, hq1, hul, hin⟩ := nest_split hN1
  have hfl := fromG_len n n 1
  have hf8 : 2 ^ n ≤ 2 ^ 8 := Nat.pow_le_pow_right (by decide) hn.2
  have hf9 : (2 : Nat) ^ 8 = 256 := by decide
  simp only [↓vsd, vsn, gW, qd, qv, ev, pick, argE, zipE, ne_eq, eq_self, forall_const, implies_true, if_true, if_false, reduceIte, reduceCtorEq, Nat.reduceEqDiff, Nat.reduceAdd, Nat.reduceLT, ↓us_sl2All, r_sl2All, hq1.facts, hul]
  refine m_upto (fromG n n 1).length (fun i vs w' => ∃ o, vs = [o, .int .i64 i] ∧ Own fS 1 9 w1.heap.size w' o (allGo n ((fromG n n 1).take i)) ∧ Ext w1 w') ⟨_, rfl, Own.nil fS_len, Ext.refl _⟩ ?_
  rintro i vs w2 hi ⟨o, rfl, ho2, hx2⟩
  have hal := allGo_len n ((fromG n n 1).take i)
  rw [List.length_take] at hal
  by_cases hlt : i < (fromG n n 1).length
  · have hltI : (i : Int) < (fromG n n 1).length := by omega
    have hltJ : ¬ ((fromG n n 1).length : Int) ≤ i := by omega
    have hlu : i < us.length := by omega
    have hq2 := hq1.ext hx2
    have hin2 := (hin i hlt).ext hx2
    have hrl := fromG_mem n n 1 (by omega) _ (getD_mem [] hlt)
    have hsucc := allGo_succ n (fromG n n 1) i hlt
    generalize hl : allGo n ((fromG n n 1).take i) = l at *
    generalize hpl : (fromG n n 1).getD i [] = pl at *
    simp only [↓vsd, vsn, gW, qd, qv, ev, pick, argE, zipE, ne_eq, eq_self, forall_const, implies_true, if_true, if_false, reduceIte, reduceCtorEq, Nat.reduceEqDiff, Nat.reduceAdd, Nat.reduceLT, ↓us_sl2All, r_sl2All, hq2.facts, hul, hltI, hltJ, hq2.at1 SV.nil hlu, fSV_get]
    refine ⟨by omega, m_call (sl2Of_ok _ pl (by omega) (fun x hx => by have := hrl.2 x hx; omega) _ (by first | exact hin2 | exact hin2.ext (dr (Ext.refl _)))) ?_⟩
    rintro _ w3 hx3 rfl
    have hx3 : Ext w2 w3 := by first | exact hx3 | exact ud hx3
    have hofl : (ofL pl).length ≤ 1048576 := by unfold ofL; split <;> simp; omega
    simp only [↓vsd, vsn, gW, qd, qv, ev, pick, argE, zipE, ne_eq, eq_self, forall_const, implies_true, if_true, if_false, reduceIte, reduceCtorEq, Nat.reduceEqDiff, Nat.reduceAdd, Nat.reduceLT, ↓us_sl2All, r_sl2All]
    refine m_call (sl2Change_ok n (ofL pl) hofl _) ?_
    rintro _ w4 hx4 rfl
    have ho4 := (ho2.ext hx3).ext hx4
    have hx14 := (hx2.trans hx3).trans hx4
    by_cases hc : IsChange n (ofL pl)
    · rw [if_pos hc] at hsucc
      simp only [↓vsd, vsn, gW, qd, qv, ev, pick, argE, zipE, ne_eq, eq_self, forall_const, implies_true, if_true, if_false, reduceIte, reduceCtorEq, Nat.reduceEqDiff, Nat.reduceAdd, Nat.reduceLT, ↓us_sl2All, r_sl2All, hc, ho4.sq.facts]
      refine m_bsl (one_el rfl) ?_
      rintro b5 w5 hb5 hblk5 hx5 hs5
      simp only [↓vsd, vsn, gW, qd, qv, ev, pick, argE, zipE, ne_eq, eq_self, forall_const, implies_true, if_true, if_false, reduceIte, reduceCtorEq, Nat.reduceEqDiff, Nat.reduceAdd, Nat.reduceLT, ↓us_sl2All, r_sl2All]
      refine m_app2 (ho4.ext hx5) (Sq.one fS_len hblk5 rfl) fS_one (by decide) (by simp; omega) (by decide) ((hx14.trans hx5).size) ?_
      rintro o6 w6 ho6 hg6 _
      have hx6 := (ho4.ext hx5).grown (hx14.trans hx5) (Nat.le_refl _) hg6
      simp only [↓vsd, vsn, gW, qd, qv, ev, pick, argE, zipE, ne_eq, eq_self, forall_const, implies_true, if_true, if_false, reduceIte, reduceCtorEq, Nat.reduceEqDiff, Nat.reduceAdd, Nat.reduceLT, ↓us_sl2All, r_sl2All]
      refine m_loop (fun m vs w' => ∃ x, vs = [.int .i64 m] ∧ Own fS 1 9 w1.heap.size w' o6 (l.take m ++ x :: l.drop m) ∧ insAt (ofL pl) l m = insAt (ofL pl) l l.length ∧ m ≤ l.length ∧ Ext w1 w') l.length ⟨ofL pl, rfl, ho6.to (by simp), rfl, Nat.le_refl _, hx6⟩ ?_
      rintro m vs w7 ⟨x, rfl, ho7, hins, hml, hx7⟩
      have hll : (l.take m ++ x :: l.drop m).length = l.length + 1 := by simp; omega
      cases m with
      | zero =>
        have h0I : ¬ 0 < ((0 : Nat) : Int) := by omega
        simp only [↓vsd, vsn, gW, qd, qv, ev, pick, argE, zipE, ne_eq, eq_self, forall_const, implies_true, if_true, if_false, reduceIte, reduceCtorEq, Nat.reduceEqDiff, Nat.reduceAdd, Nat.reduceLT, ↓us_sl2All, r_sl2All, ho7.sq.facts, hll, h0I]
        refine ⟨by omega, m_set1 0 (ofL pl) ho7 rfl (by omega) rfl fS_one ?_⟩
        rintro w8 ho8 hg8 _
        have hx8 := ho7.grown hx7 (Nat.le_refl _) hg8
        simp only [↓vsd, vsn, gW, qd, qv, ev, pick, argE, zipE, ne_eq, eq_self, forall_const, implies_true, if_true, if_false, reduceIte, reduceCtorEq, Nat.reduceEqDiff, Nat.reduceAdd, Nat.reduceLT, ↓us_sl2All, r_sl2All]
        refine ⟨inR_i64 (by omega), UpTo.next hlt ⟨o6, rfl, ho8.to ?_, hx8⟩⟩
        rw [hsucc, insL, ← hins]
        rfl
      | succ m =>
        have hg : (l.take (m + 1) ++ x :: l.drop (m + 1)).getD m [] = l.getD m [] := by
          rw [List.getD_eq_getElem?_getD, List.getElem?_append_left (by rw [List.length_take]; omega), List.getElem?_take, if_pos (by omega), List.getD_eq_getElem?_getD]
        have eI : ((m + 1 : Nat) : Int) - 1 = (m : Nat) := by omega
        have hmI : 0 < ((m + 1 : Nat) : Int) := by omega
        have hmJ : ¬ ((m + 1 : Nat) : Int) ≤ 0 := by omega
        have hml2 : m < (l.take (m + 1) ++ x :: l.drop (m + 1)).length := by omega
        simp only [↓vsd, vsn, gW, qd, qv, ev, pick, argE, zipE, ne_eq, eq_self, forall_const, implies_true, if_true, if_false, reduceIte, reduceCtorEq, Nat.reduceEqDiff, Nat.reduceAdd, Nat.reduceLT, ↓us_sl2All, r_sl2All, ho7.sq.facts, hll, hmI, hmJ, eI, ho7.sq.at1 [] hml2, hg, less_total]
        refine ⟨inR_i64 (by omega), by omega, fun hgt => ⟨inR_i64 (by omega), by omega, by omega, m_set1 (m + 1) (l.getD m []) ho7 rfl (by omega) rfl fS_one ?_⟩, fun hng => ⟨by omega, m_set1 (m + 1) (ofL pl) ho7 rfl (by omega) rfl fS_one ?_⟩⟩
        · rintro w8 ho8 hg8 _
          have hx8 := ho7.grown hx7 (Nat.le_refl _) hg8
          simp only [↓vsd, vsn, gW, qd, qv, ev, pick, argE, zipE, ne_eq, eq_self, forall_const, implies_true, if_true, if_false, reduceIte, reduceCtorEq, Nat.reduceEqDiff, Nat.reduceAdd, Nat.reduceLT, ↓us_sl2All, r_sl2All, eI]
          refine ⟨inR_i64 (by omega), m, by omega, l.getD m [], rfl, ho8.to (ins_set l x m (by omega)), ?_, by omega, hx8⟩
          rw [← hins, insAt, if_pos hgt]
        · rintro w8 ho8 hg8 _
          have hx8 := ho7.grown hx7 (Nat.le_refl _) hg8
          simp only [↓vsd, vsn, gW, qd, qv, ev, pick, argE, zipE, ne_eq, eq_self, forall_const, implies_true, if_true, if_false, reduceIte, reduceCtorEq, Nat.reduceEqDiff, Nat.reduceAdd, Nat.reduceLT, ↓us_sl2All, r_sl2All]
          refine ⟨inR_i64 (by omega), UpTo.next hlt ⟨o6, rfl, ho8.to ?_, hx8⟩⟩
          rw [hsucc, insL, ← hins, insAt, if_neg hng, List.set_append_right _ _ (by rw [List.length_take]; omega), List.length_take, Nat.min_eq_left (by omega), Nat.sub_self]
          rfl
    · rw [if_neg hc] at hsucc
      simp only [↓vsd, vsn, gW, qd, qv, ev, pick, argE, zipE, ne_eq, eq_self, forall_const, implies_true, if_true, if_false, reduceIte, reduceCtorEq, Nat.reduceEqDiff, Nat.reduceAdd, Nat.reduceLT, ↓us_sl2All, r_sl2All, hc]
      exact ⟨inR_i64 (by omega), UpTo.next hlt ⟨o, rfl, ho4.to hsucc.symm, hx14⟩⟩
  · obtain rfl : i = (fromG n n 1).length := by omega
    have hltI : ¬ ((fromG n n 1).length : Int) < (fromG n n 1).length := by omega
    simp only [↓vsd, vsn, gW, qd, qv, ev, pick, argE, zipE, ne_eq, eq_self, forall_const, implies_true, if_true, if_false, reduceIte, reduceCtorEq, Nat.reduceEqDiff, Nat.reduceAdd, Nat.reduceLT, ↓us_sl2All, r_sl2All, hltI]
    rw [List.take_length] at ho2
    exact ⟨hx1.trans hx2, ho2.mono hx1.size⟩
theorem sl1Cur_change_ok (W : World) (b n : Nat) (m : Nat) (hm : 3 ≤ m ∧ m ≤ 8) (w : World) (hn : n ≤ 800000000) (hc : Cur W b n w) : CurFn 81 [cV b, .int .i64 m] W b n 2 w (fun r _ => ∃ x, r = S x ∧ IsChange m x) := by
  (refine callsV_of mix Try.func81 c_sl1Cur_change ?_; simp only [↓vsd, vsn, gW, qd, qv, ev, pick, argE, zipE, ne_eq, eq_self, forall_const, implies_true, if_true, if_false, reduceIte, reduceCtorEq, Nat.reduceEqDiff, Nat.reduceAdd, Nat.reduceLT, ↓us_sl1Cur_change, r_sl1Cur_change])
  refine m_call (sl2All_ok m hm _) ?_
  rintro v1 w1 hx1 ho1
  have hs := allL_some m (by omega) hm.1
  have hall := allL_change m (by omega) hm.1
  have hlt := hc.lt
  simp only [↓vsd, vsn, gW, qd, qv, ev, pick, argE, zipE, ne_eq, eq_self, forall_const, implies_true, if_true, if_false, reduceIte, reduceCtorEq, Nat.reduceEqDiff, Nat.reduceAdd, Nat.reduceLT, ↓us_sl1Cur_change, r_sl1Cur_change, ho1.sq.facts]
  refine m_callw (.inl rfl) (sl1Cur_pick_ok W b n (allL m).length (by omega) w1 (by omega) (hc.ext hx1)) ?_
  rintro _ w2 ⟨hc2, hg2, x, rfl, hx⟩
  have hxl : x < (allL m).length := by omega
  have ho2 := ho1.keep hg2 (fun c hc => by obtain rfl := Option.some.inj hc; exact hlt.2)
  simp only [↓vsd, vsn, gW, qd, qv, ev, pick, argE, zipE, ne_eq, eq_self, forall_const, implies_true, if_true, if_false, reduceIte, reduceCtorEq, Nat.reduceEqDiff, Nat.reduceAdd, Nat.reduceLT, ↓us_sl1Cur_change, r_sl1Cur_change, ho2.sq.facts, ho2.sq.at1 [] hxl]
  exact ⟨by omega, hc2, grown_trans (grown_ext _ hx1) hg2, _, rfl, hall _ (getD_mem [] hxl)⟩
end Go.Proofs.Ytfklonhjgkahdaa
