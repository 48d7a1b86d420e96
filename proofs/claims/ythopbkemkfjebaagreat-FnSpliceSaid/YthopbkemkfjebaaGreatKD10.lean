/-
  The drawing of changes.
  Conditions: none.
-/
import Derived.Test.YthopbkemkfjebaaGreatKA11
import Derived.Test.YthopbkemkfjebaaGreatKD2
import Derived.Test.YthopbkemkfjebaaGreatKPg
import Derived.Test.YthopbkemkfjebaaGreatKVn
set_option linter.unusedSimpArgs false
set_option linter.unusedVariables false
set_option linter.defProp false
namespace Go.Proofs.YthopbkemkfjebaaGreat
open Go Go.RowKit
section
variable (P : Program) (k : KT) (e : Env) (w : World)
abbrev b142_1 : X := (.cond (.t 4) (.seq (.reg [2] (.c (.q 5 [] (.mv (.t 0))) (.c (.q 6 [] (.bin .add (.c (.int .i64 48)) (.t 5))) (.c (.q 7 [] (.cvi .u8 (.t 6))) (.c (.e (some 8) [] (.bsl 5 1 [(.t 7)])) (.c (.e (some 9) [] (.b2s (.t 8))) (.c (.q 2 [] (.mv (.t 9))) .nil))))))) .ret) .skip)
def t142_1 := b142_1
theorem u142_1 : vcK P t142_1 k e w = vcK P b142_1 k e w := rfl
abbrev b142_2 : X := (.seq (.drw [2] (.c (.q 10 [] (.mv (.t 0))) (.c (.q 11 [] (.bin .quo (.t 10) (.c (.int .i64 10)))) (.c (.q 13 [] (.mv (.t 0))) (.c (.q 14 [] (.bin .rem (.t 13) (.c (.int .i64 10)))) (.c (.q 15 [] (.bin .add (.c (.int .i64 48)) (.t 14))) (.c (.q 16 [] (.cvi .u8 (.t 15))) (.alt (.c (.e (some 12) [] (.call false 142 [(.t 11)])) (.c (.e (some 17) [] (.bsl 5 1 [(.t 16)])) (.c (.e (some 18) [] (.b2s (.t 17))) (.c (.q 19 [] (.bin .add (.t 12) (.t 18))) (.c (.q 2 [] (.mv (.t 19))) .nil))))) (.c (.e (some 17) [] (.bsl 5 1 [(.t 16)])) (.alt (.c (.e (some 12) [] (.call false 142 [(.t 11)])) (.c (.e (some 18) [] (.b2s (.t 17))) (.c (.q 19 [] (.bin .add (.t 12) (.t 18))) (.c (.q 2 [] (.mv (.t 19))) .nil)))) (.c (.e (some 18) [] (.b2s (.t 17))) (.c (.e (some 12) [] (.call false 142 [(.t 11)])) (.c (.q 19 [] (.bin .add (.t 12) (.t 18))) (.c (.q 2 [] (.mv (.t 19))) .nil)))))))))))))) .ret)
def t142_2 := b142_2
theorem u142_2 : vcK P t142_2 k e w = vcK P b142_2 k e w := rfl
abbrev b142_3 : X := (.seq (.seq (.reg [0, 4] (.c (.q 3 [] (.mv (.t 0))) (.c (.q 4 [] (.bin .lss (.t 3) (.c (.int .i64 10)))) .nil))) t142_1) t142_2)
def t142_3 := b142_3
theorem u142_3 : vcK P t142_3 k e w = vcK P b142_3 k e w := rfl
abbrev b142_0 : X := (.seq (.reg [0] (.c (.q 2 [] (.mv (.s []))) .nil)) t142_3)
def x_sl1Num := b142_0
theorem u142_0 : vcK P x_sl1Num k e w = vcK P b142_0 k e w := rfl
def r_sl1Num : List XO := [(.mv (.t 2))]
theorem c_sl1Num : convF Tryz.prog [56, 58, 59, 60, 61, 62, 72, 73, 77, 97, 98, 109, 110, 111, 112, 115, 128, 136] Tryz.f142 [([0], []), ([0, 4], []), ([2], []), ([2], [])] = some (x_sl1Num, r_sl1Num) := by kernel_rfl
def us_sl1Num :=  (aI (aI @u142_0 @u142_1) (aI @u142_2 @u142_3))
abbrev b154_1 : X := (.reg [3, 6, 7, 8] (.c (.q 12 [] (.mv (.t 3))) (.c (.q 13 [] (.mv (.t 5))) (.c (.e (some 14) [] (.call false 142 [(.t 13)])) (.c (.q 15 [] (.bin .add (.t 12) (.t 14))) (.c (.q 3 [] (.mv (.t 15))) .nil))))))
def t154_1 := b154_1
theorem u154_1 : vcK P t154_1 k e w = vcK P b154_1 k e w := rfl
abbrev b154_2 : X := (.reg [3, 6, 7, 8] (.c (.q 16 [] (.bin .add (.t 8) (.c (.int .i64 1)))) (.c (.q 8 [] (.mv (.t 16))) .nil)))
def t154_2 := b154_2
theorem u154_2 : vcK P t154_2 k e w = vcK P b154_2 k e w := rfl
abbrev b154_3 : X := (.seq (.blk 1 (.seq (.reg [3, 5, 6, 7, 8] (.c (.q 10 [] (.ia 1 (.t 6) (.t 8))) (.c (.q 11 [] (.ld (.t 10))) (.c (.q 5 [] (.mv (.t 11))) .nil)))) t154_1)) t154_2)
def t154_3 := b154_3
theorem u154_3 : vcK P t154_3 k e w = vcK P b154_3 k e w := rfl
abbrev b154_4 : X := (.seq (.cond (.t 9) .skip (.exit 0)) t154_3)
def t154_4 := b154_4
theorem u154_4 : vcK P t154_4 k e w = vcK P b154_4 k e w := rfl
abbrev b154_5 : X := (.seq (.reg [3, 6, 7, 8, 9] (.c (.q 9 [] (.bin .lss (.t 8) (.t 7))) .nil)) t154_4)
def t154_5 := b154_5
theorem u154_5 : vcK P t154_5 k e w = vcK P b154_5 k e w := rfl
abbrev b154_6 : X := (.blk 0 (.loop [3, 8] [6, 7] t154_5))
def t154_6 := b154_6
theorem u154_6 : vcK P t154_6 k e w = vcK P b154_6 k e w := rfl
abbrev b154_7 : X := (.cond (.t 18) (.seq (.reg [2] (.c (.q 2 [] (.mv (.s [45]))) .nil)) .ret) .skip)
def t154_7 := b154_7
theorem u154_7 : vcK P t154_7 k e w = vcK P b154_7 k e w := rfl
abbrev b154_8 : X := (.seq (.reg [2] (.c (.q 19 [] (.mv (.t 3))) (.c (.q 2 [] (.mv (.t 19))) .nil))) .ret)
def t154_8 := b154_8
theorem u154_8 : vcK P t154_8 k e w = vcK P b154_8 k e w := rfl
abbrev b154_9 : X := (.seq (.seq (.reg [3, 18] (.c (.q 17 [] (.mv (.t 3))) (.c (.q 18 [] (.bin .eql (.t 17) (.s []))) .nil))) t154_7) t154_8)
def t154_9 := b154_9
theorem u154_9 : vcK P t154_9 k e w = vcK P b154_9 k e w := rfl
abbrev b154_10 : X := (.seq (.seq (.reg [3, 6, 7, 8] (.c (.q 6 [] (.mv (.t 0))) (.c (.q 7 [] (.lens (.t 6))) (.c (.q 8 [] (.mv (.c (.int .i64 0)))) .nil)))) t154_6) t154_9)
def t154_10 := b154_10
theorem u154_10 : vcK P t154_10 k e w = vcK P b154_10 k e w := rfl
abbrev b154_11 : X := (.seq (.reg [0, 3] (.c (.q 3 [] (.mv (.s []))) .nil)) t154_10)
def t154_11 := b154_11
theorem u154_11 : vcK P t154_11 k e w = vcK P b154_11 k e w := rfl
abbrev b154_0 : X := (.seq (.reg [0] (.c (.q 2 [] (.mv (.s []))) .nil)) t154_11)
def x_sl2Of := b154_0
theorem u154_0 : vcK P x_sl2Of k e w = vcK P b154_0 k e w := rfl
def r_sl2Of : List XO := [(.mv (.t 2))]
theorem c_sl2Of : convF Tryz.prog [56, 58, 59, 60, 61, 62, 72, 73, 77, 97, 98, 109, 110, 111, 112, 115, 128, 136] Tryz.f154 [([0], []), ([0, 3], []), ([3, 6, 7, 8], []), ([3, 8], [6, 7]), ([3, 6, 7, 8, 9], []), ([3, 5, 6, 7, 8], []), ([3, 6, 7, 8], []), ([3, 6, 7, 8], []), ([3, 18], []), ([2], []), ([2], [])] = some (x_sl2Of, r_sl2Of) := by kernel_rfl
def us_sl2Of :=  (aI (aI (aI @u154_0 (aI @u154_1 @u154_2)) (aI @u154_3 (aI @u154_4 @u154_5))) (aI (aI @u154_6 (aI @u154_7 @u154_8)) (aI @u154_9 (aI @u154_10 @u154_11))))
abbrev b153_1 : X := (.cond (.t 10) (.seq (.reg [4] (.c (.e (some 11) [] (.bsl 32 1 [(.c (.slice none 0 0))])) (.c (.q 4 [] (.mv (.t 11))) .nil))) .ret) .skip)
def t153_1 := b153_1
theorem u153_1 : vcK P t153_1 k e w = vcK P b153_1 k e w := rfl
abbrev b153_2 : X := (.reg [0, 1, 5, 15, 16, 17] (.c (.q 21 [] (.mv (.t 5))) (.c (.q 22 [] (.mv (.t 1))) (.c (.e (some 23) [] (.bsl 3 1 [(.t 22)])) (.c (.q 24 [] (.mv (.t 7))) (.c (.e (some 25) [] (.app 32 3 1 8 [(.int .i64 0)] 32 (.t 23) (.t 24))) (.c (.e (some 26) [] (.bsl 32 1 [(.t 25)])) (.c (.e (some 27) [] (.app 37 32 1 24 [(.slice none 0 0)] 37 (.t 21) (.t 26))) (.c (.q 5 [] (.mv (.t 27))) .nil)))))))))
def t153_2 := b153_2
theorem u153_2 : vcK P t153_2 k e w = vcK P b153_2 k e w := rfl
abbrev b153_3 : X := (.reg [0, 1, 5, 15, 16, 17] (.c (.q 28 [] (.bin .add (.t 17) (.c (.int .i64 1)))) (.c (.q 17 [] (.mv (.t 28))) .nil)))
def t153_3 := b153_3
theorem u153_3 : vcK P t153_3 k e w = vcK P b153_3 k e w := rfl
abbrev b153_4 : X := (.seq (.blk 1 (.seq (.reg [0, 1, 5, 7, 15, 16, 17] (.c (.q 19 [] (.ia 1 (.t 15) (.t 17))) (.c (.q 20 [] (.ld (.t 19))) (.c (.q 7 [] (.mv (.t 20))) .nil)))) t153_2)) t153_3)
def t153_4 := b153_4
theorem u153_4 : vcK P t153_4 k e w = vcK P b153_4 k e w := rfl
abbrev b153_5 : X := (.seq (.cond (.t 18) .skip (.exit 0)) t153_4)
def t153_5 := b153_5
theorem u153_5 : vcK P t153_5 k e w = vcK P b153_5 k e w := rfl
abbrev b153_6 : X := (.seq (.reg [0, 1, 5, 15, 16, 17, 18] (.c (.q 18 [] (.bin .lss (.t 17) (.t 16))) .nil)) t153_5)
def t153_6 := b153_6
theorem u153_6 : vcK P t153_6 k e w = vcK P b153_6 k e w := rfl
abbrev b153_7 : X := (.blk 0 (.loop [5, 17] [0, 1, 15, 16] t153_6))
def t153_7 := b153_7
theorem u153_7 : vcK P t153_7 k e w = vcK P b153_7 k e w := rfl
abbrev b153_8 : X := (.cond (.t 31) (.reg [5] (.c (.q 32 [] (.mv (.t 5))) (.c (.q 33 [] (.mv (.t 0))) (.c (.q 34 [] (.mv (.t 1))) (.c (.q 35 [] (.bin .add (.t 34) (.c (.int .i64 2)))) (.c (.e (some 36) [] (.call false 153 [(.t 33), (.t 35)])) (.c (.e (some 37) [] (.app 37 32 1 24 [(.slice none 0 0)] 37 (.t 32) (.t 36))) (.c (.q 5 [] (.mv (.t 37))) .nil)))))))) .skip)
def t153_8 := b153_8
theorem u153_8 : vcK P t153_8 k e w = vcK P b153_8 k e w := rfl
abbrev b153_9 : X := (.seq (.reg [4] (.c (.q 38 [] (.mv (.t 5))) (.c (.q 4 [] (.mv (.t 38))) .nil))) .ret)
def t153_9 := b153_9
theorem u153_9 : vcK P t153_9 k e w = vcK P b153_9 k e w := rfl
abbrev b153_10 : X := (.seq (.seq (.reg [0, 1, 5, 31] (.c (.q 29 [] (.mv (.t 1))) (.c (.q 30 [] (.mv (.t 0))) (.c (.q 31 [] (.bin .lss (.t 29) (.t 30))) .nil)))) t153_8) t153_9)
def t153_10 := b153_10
theorem u153_10 : vcK P t153_10 k e w = vcK P b153_10 k e w := rfl
abbrev b153_11 : X := (.seq (.seq (.reg [0, 1, 5, 15, 16, 17] (.c (.q 12 [] (.mv (.t 0))) (.c (.q 13 [] (.mv (.t 1))) (.c (.q 14 [] (.bin .add (.t 13) (.c (.int .i64 1)))) (.c (.e (some 15) [] (.call false 153 [(.t 12), (.t 14)])) (.c (.q 16 [] (.lens (.t 15))) (.c (.q 17 [] (.mv (.c (.int .i64 0)))) .nil))))))) t153_7) t153_10)
def t153_11 := b153_11
theorem u153_11 : vcK P t153_11 k e w = vcK P b153_11 k e w := rfl
abbrev b153_12 : X := (.seq (.reg [0, 1, 5] (.c (.q 5 [] (.mv (.c (.slice none 0 0)))) .nil)) t153_11)
def t153_12 := b153_12
theorem u153_12 : vcK P t153_12 k e w = vcK P b153_12 k e w := rfl
abbrev b153_13 : X := (.seq (.seq (.reg [0, 1, 10] (.c (.q 8 [] (.mv (.t 1))) (.c (.q 9 [] (.mv (.t 0))) (.c (.q 10 [] (.bin .gtr (.t 8) (.t 9))) .nil)))) t153_1) t153_12)
def t153_13 := b153_13
theorem u153_13 : vcK P t153_13 k e w = vcK P b153_13 k e w := rfl
abbrev b153_0 : X := (.seq (.reg [0, 1] (.c (.q 4 [] (.mv (.c (.slice none 0 0)))) .nil)) t153_13)
def x_sl2From := b153_0
theorem u153_0 : vcK P x_sl2From k e w = vcK P b153_0 k e w := rfl
def r_sl2From : List XO := [(.mv (.t 4))]
theorem c_sl2From : convF Tryz.prog [56, 58, 59, 60, 61, 62, 72, 73, 77, 97, 98, 109, 110, 111, 112, 115, 128, 136] Tryz.f153 [([0, 1], []), ([0, 1, 10], []), ([4], []), ([0, 1, 5], []), ([0, 1, 5, 15, 16, 17], []), ([5, 17], [0, 1, 15, 16]), ([0, 1, 5, 15, 16, 17, 18], []), ([0, 1, 5, 7, 15, 16, 17], []), ([0, 1, 5, 15, 16, 17], []), ([0, 1, 5, 15, 16, 17], []), ([0, 1, 5, 31], []), ([5], []), ([4], [])] = some (x_sl2From, r_sl2From) := by kernel_rfl
def us_sl2From :=  (aI (aI (aI @u153_0 (aI @u153_1 @u153_2)) (aI (aI @u153_3 @u153_4) (aI @u153_5 @u153_6))) (aI (aI @u153_7 (aI @u153_8 @u153_9)) (aI (aI @u153_10 @u153_11) (aI @u153_12 @u153_13))))
abbrev b145_1 : X := (.cond (.t 20) (.exit 1) .skip)
def t145_1 := b145_1
theorem u145_1 : vcK P t145_1 k e w = vcK P b145_1 k e w := rfl
abbrev b145_2 : X := (.cond (.t 37) .skip (.exit 2))
def t145_2 := b145_2
theorem u145_2 : vcK P t145_2 k e w = vcK P b145_2 k e w := rfl
abbrev b145_3 : X := (.reg [0, 3, 6, 7, 9, 10, 11] (.c (.q 46 [] (.mv (.t 7))) (.c (.q 47 [] (.bin .sub (.t 46) (.c (.int .i64 1)))) (.c (.q 7 [] (.mv (.t 47))) .nil))))
def t145_3 := b145_3
theorem u145_3 : vcK P t145_3 k e w = vcK P b145_3 k e w := rfl
abbrev b145_4 : X := (.blk 3 (.seq (.reg [0, 3, 6, 7, 9, 10, 11] (.c (.q 38 [] (.mv (.t 3))) (.c (.q 39 [] (.mv (.t 7))) (.c (.q 40 [] (.mv (.t 3))) (.c (.q 41 [] (.mv (.t 7))) (.c (.q 42 [] (.bin .sub (.t 41) (.c (.int .i64 1)))) (.c (.q 43 [] (.ia 1 (.t 40) (.t 42))) (.c (.q 44 [] (.ld (.t 43))) (.c (.q 45 [] (.ia 1 (.t 38) (.t 39))) (.c (.e none [] (.st 1 (.t 45) (.t 44))) .nil)))))))))) t145_3))
def t145_4 := b145_4
theorem u145_4 : vcK P t145_4 k e w = vcK P b145_4 k e w := rfl
abbrev b145_5 : X := (.seq (.seq (.reg [0, 3, 6, 7, 9, 10, 11, 37] (.c (.q 27 [] (.mv (.t 7))) (.c (.q 28 [] (.bin .gtr (.t 27) (.c (.int .i64 0)))) (.c (.q 29 [] (.mv (.t 28))) (.c (.q 30 [(29, true)] (.mv (.t 3))) (.c (.q 31 [(29, true)] (.mv (.t 7))) (.c (.q 32 [(29, true)] (.bin .sub (.t 31) (.c (.int .i64 1)))) (.c (.q 33 [(29, true)] (.ia 1 (.t 30) (.t 32))) (.c (.q 34 [(29, true)] (.ld (.t 33))) (.c (.q 35 [(29, true)] (.mv (.t 6))) (.c (.q 36 [(29, true)] (.bin .gtr (.t 34) (.t 35))) (.c (.q 37 [] (.pick (.t 29) (.t 36) (.c (.bool false)))) .nil)))))))))))) t145_2) t145_4)
def t145_5 := b145_5
theorem u145_5 : vcK P t145_5 k e w = vcK P b145_5 k e w := rfl
abbrev b145_6 : X := (.reg [0, 3, 9, 10, 11] (.c (.q 48 [] (.mv (.t 3))) (.c (.q 49 [] (.mv (.t 7))) (.c (.q 50 [] (.mv (.t 6))) (.c (.q 51 [] (.ia 1 (.t 48) (.t 49))) (.c (.e none [] (.st 1 (.t 51) (.t 50))) .nil))))))
def t145_6 := b145_6
theorem u145_6 : vcK P t145_6 k e w = vcK P b145_6 k e w := rfl
abbrev b145_7 : X := (.seq (.blk 2 (.loop [7] [0, 3, 6, 9, 10, 11] t145_5)) t145_6)
def t145_7 := b145_7
theorem u145_7 : vcK P t145_7 k e w = vcK P b145_7 k e w := rfl
abbrev b145_8 : X := (.seq (.reg [0, 3, 6, 7, 9, 10, 11] (.c (.q 23 [] (.mv (.t 3))) (.c (.q 24 [] (.mv (.t 6))) (.c (.e (some 25) [] (.bsl 9 1 [(.t 24)])) (.c (.e (some 26) [] (.app 23 9 1 16 [(S [])] 23 (.t 23) (.t 25))) (.c (.q 3 [] (.mv (.t 26))) .nil)))))) t145_7)
def t145_8 := b145_8
theorem u145_8 : vcK P t145_8 k e w = vcK P b145_8 k e w := rfl
abbrev b145_9 : X := (.seq (.reg [0, 3, 6, 7, 9, 10, 11] (.c (.q 21 [] (.mv (.t 3))) (.c (.q 22 [] (.lens (.t 21))) (.c (.q 7 [] (.mv (.t 22))) .nil)))) t145_8)
def t145_9 := b145_9
theorem u145_9 : vcK P t145_9 k e w = vcK P b145_9 k e w := rfl
abbrev b145_10 : X := (.seq (.seq (.reg [0, 3, 6, 9, 10, 11, 20] (.c (.q 17 [] (.mv (.t 0))) (.c (.q 18 [] (.mv (.t 6))) (.c (.e (some 19) [] (.call false 113 [(.t 17), (.t 18)])) (.c (.q 20 [] (.not (.t 19))) .nil))))) t145_1) t145_9)
def t145_10 := b145_10
theorem u145_10 : vcK P t145_10 k e w = vcK P b145_10 k e w := rfl
abbrev b145_11 : X := (.seq (.reg [0, 3, 6, 9, 10, 11] (.c (.q 15 [] (.mv (.t 5))) (.c (.e (some 16) [] (.call false 154 [(.t 15)])) (.c (.q 6 [] (.mv (.t 16))) .nil)))) t145_10)
def t145_11 := b145_11
theorem u145_11 : vcK P t145_11 k e w = vcK P b145_11 k e w := rfl
abbrev b145_12 : X := (.reg [0, 3, 9, 10, 11] (.c (.q 52 [] (.bin .add (.t 11) (.c (.int .i64 1)))) (.c (.q 11 [] (.mv (.t 52))) .nil)))
def t145_12 := b145_12
theorem u145_12 : vcK P t145_12 k e w = vcK P b145_12 k e w := rfl
abbrev b145_13 : X := (.seq (.blk 1 (.seq (.reg [0, 3, 5, 9, 10, 11] (.c (.q 13 [] (.ia 1 (.t 9) (.t 11))) (.c (.q 14 [] (.ld (.t 13))) (.c (.q 5 [] (.mv (.t 14))) .nil)))) t145_11)) t145_12)
def t145_13 := b145_13
theorem u145_13 : vcK P t145_13 k e w = vcK P b145_13 k e w := rfl
abbrev b145_14 : X := (.seq (.cond (.t 12) .skip (.exit 0)) t145_13)
def t145_14 := b145_14
theorem u145_14 : vcK P t145_14 k e w = vcK P b145_14 k e w := rfl
abbrev b145_15 : X := (.seq (.reg [0, 3, 9, 10, 11, 12] (.c (.q 12 [] (.bin .lss (.t 11) (.t 10))) .nil)) t145_14)
def t145_15 := b145_15
theorem u145_15 : vcK P t145_15 k e w = vcK P b145_15 k e w := rfl
abbrev b145_16 : X := (.blk 0 (.loop [3, 11] [0, 9, 10] t145_15))
def t145_16 := b145_16
theorem u145_16 : vcK P t145_16 k e w = vcK P b145_16 k e w := rfl
abbrev b145_17 : X := (.seq (.reg [2] (.c (.q 53 [] (.mv (.t 3))) (.c (.q 2 [] (.mv (.t 53))) .nil))) .ret)
def t145_17 := b145_17
theorem u145_17 : vcK P t145_17 k e w = vcK P b145_17 k e w := rfl
abbrev b145_18 : X := (.seq (.seq (.reg [0, 3, 9, 10, 11] (.c (.q 8 [] (.mv (.t 0))) (.c (.e (some 9) [] (.call false 153 [(.t 8), (.c (.int .i64 1))])) (.c (.q 10 [] (.lens (.t 9))) (.c (.q 11 [] (.mv (.c (.int .i64 0)))) .nil))))) t145_16) t145_17)
def t145_18 := b145_18
theorem u145_18 : vcK P t145_18 k e w = vcK P b145_18 k e w := rfl
abbrev b145_19 : X := (.seq (.reg [0, 3] (.c (.q 3 [] (.mv (.c (.slice none 0 0)))) .nil)) t145_18)
def t145_19 := b145_19
theorem u145_19 : vcK P t145_19 k e w = vcK P b145_19 k e w := rfl
abbrev b145_0 : X := (.seq (.reg [0] (.c (.q 2 [] (.mv (.c (.slice none 0 0)))) .nil)) t145_19)
def x_sl2All := b145_0
theorem u145_0 : vcK P x_sl2All k e w = vcK P b145_0 k e w := rfl
def r_sl2All : List XO := [(.mv (.t 2))]
theorem c_sl2All : convF Tryz.prog [56, 58, 59, 60, 61, 62, 72, 73, 77, 97, 98, 109, 110, 111, 112, 115, 128, 136] Tryz.f145 [([0], []), ([0, 3], []), ([0, 3, 9, 10, 11], []), ([3, 11], [0, 9, 10]), ([0, 3, 9, 10, 11, 12], []), ([0, 3, 5, 9, 10, 11], []), ([0, 3, 6, 9, 10, 11], []), ([0, 3, 6, 9, 10, 11, 20], []), ([0, 3, 6, 7, 9, 10, 11], []), ([0, 3, 6, 7, 9, 10, 11], []), ([7], [0, 3, 6, 9, 10, 11]), ([0, 3, 6, 7, 9, 10, 11, 37], []), ([0, 3, 6, 7, 9, 10, 11], []), ([0, 3, 6, 7, 9, 10, 11], []), ([0, 3, 9, 10, 11], []), ([0, 3, 9, 10, 11], []), ([2], [])] = some (x_sl2All, r_sl2All) := by kernel_rfl
def us_sl2All :=  (aI (aI (aI (aI @u145_0 @u145_1) (aI @u145_2 (aI @u145_3 @u145_4))) (aI (aI @u145_5 @u145_6) (aI @u145_7 (aI @u145_8 @u145_9)))) (aI (aI (aI @u145_10 @u145_11) (aI @u145_12 (aI @u145_13 @u145_14))) (aI (aI @u145_15 @u145_16) (aI @u145_17 (aI @u145_18 @u145_19)))))
abbrev b112_1 : X := (.seq (.reg [4] (.c (.q 8 [] (.mv (.t 5))) (.c (.q 9 [] (.mv (.t 0))) (.c (.q 10 [] (.mv (.t 5))) (.c (.q 11 [] (.lens (.t 10))) (.c (.e (some 12) [] (.call true 61 [(.t 9), (.t 11)])) (.c (.q 13 [] (.ia 1 (.t 8) (.t 12))) (.c (.q 14 [] (.ld (.t 13))) (.c (.q 4 [] (.mv (.t 14))) .nil))))))))) .ret)
def t112_1 := b112_1
theorem u112_1 : vcK P t112_1 k e w = vcK P b112_1 k e w := rfl
abbrev b112_2 : X := (.seq (.reg [0, 5] (.c (.q 6 [] (.mv (.t 1))) (.c (.e (some 7) [] (.call false 145 [(.t 6)])) (.c (.q 5 [] (.mv (.t 7))) .nil)))) t112_1)
def t112_2 := b112_2
theorem u112_2 : vcK P t112_2 k e w = vcK P b112_2 k e w := rfl
abbrev b112_0 : X := (.seq (.reg [0, 1] (.c (.q 4 [] (.mv (.s []))) .nil)) t112_2)
def x_sl1Cur_change := b112_0
theorem u112_0 : vcK P x_sl1Cur_change k e w = vcK P b112_0 k e w := rfl
def r_sl1Cur_change : List XO := [(.mv (.t 4))]
theorem c_sl1Cur_change : convF Tryz.prog [56, 58, 59, 60, 61, 62, 72, 73, 77, 97, 98, 109, 110, 111, 112, 115, 128, 136] Tryz.f112 [([0, 1], []), ([0, 5], []), ([4], [])] = some (x_sl1Cur_change, r_sl1Cur_change) := by kernel_rfl
def us_sl1Cur_change :=  (aI @u112_0 (aI @u112_1 @u112_2))
abbrev b144_1 : X := (.seq (.reg [2] (.c (.e (some 3) [] (.bsl 9 1 [])) (.c (.q 4 [] (.mv (.t 0))) (.c (.e (some 5) [] (.app 23 9 1 16 [(S [])] 23 (.t 3) (.t 4))) (.c (.q 2 [] (.mv (.t 5))) .nil))))) .ret)
def t144_1 := b144_1
theorem u144_1 : vcK P t144_1 k e w = vcK P b144_1 k e w := rfl
abbrev b144_0 : X := (.seq (.reg [0] (.c (.q 2 [] (.mv (.c (.slice none 0 0)))) .nil)) t144_1)
def x_sl1OwnS := b144_0
theorem u144_0 : vcK P x_sl1OwnS k e w = vcK P b144_0 k e w := rfl
def r_sl1OwnS : List XO := [(.mv (.t 2))]
theorem c_sl1OwnS : convF Tryz.prog [56, 58, 59, 60, 61, 62, 72, 73, 77, 97, 98, 109, 110, 111, 112, 115, 128, 136] Tryz.f144 [([0], []), ([2], [])] = some (x_sl1OwnS, r_sl1OwnS) := by kernel_rfl
def us_sl1OwnS :=  (aI @u144_0 @u144_1)
end
theorem sl1Num_dig (n : Nat) (hn : n < 10) (w : World) : Fn 142 [.int .i64 n] w (fun r _ => r = S [UInt8.ofNat (48 + n)]) := by
  (refine callsV_of mix Tryz.func142 c_sl1Num ?_; simp only [↓vsd, vsn, gW, qd, qv, ev, pick, argE, zipE, ne_eq, eq_self, forall_const, implies_true, if_true, if_false, reduceIte, reduceCtorEq, Nat.reduceEqDiff, Nat.reduceAdd, Nat.reduceLT, ↓us_sl1Num, r_sl1Num])
  have hI : (n : Int) < 10 := by omega
  have e : (48 : Int) + (n : Nat) = ((UInt8.ofNat (48 + n)).toNat : Nat) := by rw [u8_nat (by omega)]; omega
  have hb := (UInt8.ofNat (48 + n)).toNat_lt
  have hI' : ¬ 10 ≤ (n : Int) := by omega
  simp only [↓vsd, vsn, gW, qd, qv, ev, pick, argE, zipE, ne_eq, eq_self, forall_const, implies_true, if_true, if_false, reduceIte, reduceCtorEq, Nat.reduceEqDiff, Nat.reduceAdd, Nat.reduceLT, ↓us_sl1Num, r_sl1Num, hI, hI', e]
  refine ⟨inR_u8 (by omega), m_bsl (one_el rfl) ?_⟩
  rintro b w1 hb1 hblk hx1 hs1
  simp only [↓vsd, vsn, gW, qd, qv, ev, pick, argE, zipE, ne_eq, eq_self, forall_const, implies_true, if_true, if_false, reduceIte, reduceCtorEq, Nat.reduceEqDiff, Nat.reduceAdd, Nat.reduceLT, ↓us_sl1Num, r_sl1Num]
  refine m_b2s (l := [UInt8.ofNat (48 + n)]) (Sq.one (f := fU) fU_len hblk rfl) ?_
  simp only [↓vsd, vsn, gW, qd, qv, ev, pick, argE, zipE, ne_eq, eq_self, forall_const, implies_true, if_true, if_false, reduceIte, reduceCtorEq, Nat.reduceEqDiff, Nat.reduceAdd, Nat.reduceLT, ↓us_sl1Num, r_sl1Num]
  exact hx1
theorem ofL_take (l : List Int) (k : Nat) (h : k < l.length) : ((l.take (k + 1)).map fun p => UInt8.ofNat (48 + p.toNat)) = ((l.take k).map fun p => UInt8.ofNat (48 + p.toNat)) ++ [UInt8.ofNat (48 + (l.getD k 0).toNat)] := by
  rw [List.take_add_one, List.getElem?_eq_getElem h, List.getD_eq_getElem?_getD, List.getElem?_eq_getElem h, List.map_append]
  rfl
theorem sl2Of_ok (v : Value) (l : List Int) (hl : l.length ≤ 100) (hp : ∀ x ∈ l, 0 ≤ x ∧ x ≤ 9) (w : World) (h : Sq fI 1 w v l) : Fn 154 [v] w (fun r _ => r = S (ofL l)) := by
  (refine callsV_of mix Tryz.func154 c_sl2Of ?_; simp only [↓vsd, vsn, gW, qd, qv, ev, pick, argE, zipE, ne_eq, eq_self, forall_const, implies_true, if_true, if_false, reduceIte, reduceCtorEq, Nat.reduceEqDiff, Nat.reduceAdd, Nat.reduceLT, ↓us_sl2Of, r_sl2Of])
  simp only [↓vsd, vsn, gW, qd, qv, ev, pick, argE, zipE, ne_eq, eq_self, forall_const, implies_true, if_true, if_false, reduceIte, reduceCtorEq, Nat.reduceEqDiff, Nat.reduceAdd, Nat.reduceLT, ↓us_sl2Of, r_sl2Of, h.facts]
  refine m_upto l.length (fun k vs w' => vs = [S ((l.take k).map fun p => UInt8.ofNat (48 + p.toNat)), .int .i64 k] ∧ Ext w w') ⟨rfl, Ext.refl _⟩ ?_
  rintro k vs w1 hk ⟨rfl, hx⟩
  have hq := h.ext hx
  by_cases hlt : k < l.length
  · have hltI : (k : Int) < l.length := by omega
    have hltJ : ¬ (l.length : Int) ≤ k := by omega
    have hm := hp _ (getD_mem 0 hlt)
    obtain ⟨p, hpe⟩ : ∃ p : Nat, l.getD k 0 = p := ⟨(l.getD k 0).toNat, by omega⟩
    have hs := ofL_take l k hlt
    rw [hpe] at hm hs
    simp only [↓vsd, vsn, gW, qd, qv, ev, pick, argE, zipE, ne_eq, eq_self, forall_const, implies_true, if_true, if_false, reduceIte, reduceCtorEq, Nat.reduceEqDiff, Nat.reduceAdd, Nat.reduceLT, ↓us_sl2Of, r_sl2Of, hq.facts, hltI, hltJ, hq.at1 0 hlt, hpe]
    refine ⟨by omega, m_call (sl1Num_dig p (by omega) _) ?_⟩
    rintro _ w2 hx2 rfl
    simp only [↓vsd, vsn, gW, qd, qv, ev, pick, argE, zipE, ne_eq, eq_self, forall_const, implies_true, if_true, if_false, reduceIte, reduceCtorEq, Nat.reduceEqDiff, Nat.reduceAdd, Nat.reduceLT, ↓us_sl2Of, r_sl2Of]
    refine ⟨by simp; omega, inR_i64 (by omega), UpTo.next hlt ⟨?_, by first | exact hx.trans hx2 | exact hx.trans (ud hx2)⟩⟩
    rw [hs]; rfl
  · obtain rfl : k = l.length := by omega
    have hltI : ¬ (l.length : Int) < l.length := by omega
    simp only [↓vsd, vsn, gW, qd, qv, ev, pick, argE, zipE, ne_eq, eq_self, forall_const, implies_true, if_true, if_false, reduceIte, reduceCtorEq, Nat.reduceEqDiff, Nat.reduceAdd, Nat.reduceLT, ↓us_sl2Of, r_sl2Of, hq.facts, hltI]
    rw [List.take_length]
    refine ⟨fun he => ⟨hx, ?_⟩, fun he => ⟨hx, ?_⟩⟩
    · rw [List.map_eq_nil_iff] at he
      rw [ofL, if_pos he]
    · rw [ofL, if_neg (fun e => he (by rw [e]; rfl))]
theorem nest_split {w : World} {o : Value} {ls : List (List Int)} {Q : Nat → Prop} (h : NestP fI 3 32 Q w o ls) : ∃ vs : List SV, Sq fSV 1 w o vs ∧ vs.length = ls.length ∧ ∀ i < ls.length, Sq fI 1 w (vs.getD i SV.nil).v (ls.getD i []) := h.sq
theorem map_take_succ {α β : Type} (f : α → β) (d : α) (l : List α) (k : Nat) (h : k < l.length) : (l.take (k + 1)).map f = (l.take k).map f ++ [f (l.getD k d)] := by
  rw [List.take_add_one, List.getElem?_eq_getElem h, List.getD_eq_getElem?_getD, List.getElem?_eq_getElem h, List.map_append]
  rfl
theorem nest_one {α : Type} {f : α → List Value} {E1 E2 : TypeId} {Q : Nat → Prop} {w : World} {b : Nat} {s : SV} {l : List α} (hb : Blk w b [s.v] E2) (hQ : Q b) (hi : Own f 1 E1 0 w s.v l) (hs : ∀ c, s.v.ownBlock = some c → Q c ∧ b ≠ c) :
    NestP f E1 E2 Q w (.slice (some ⟨b, 0, none⟩) 1 1) [l] := by
  refine ⟨[s], ⟨fSV_len, .inr ⟨b, 1, [s.v], rfl, Nat.zero_le _, hb, Nat.le_refl _, by decide, rfl, rfl⟩⟩, fun c hc => ?_, rfl, fun i hi' => ?_⟩
  · simp only [Value.ownBlock, Option.some.injEq] at hc
    rw [← hc]; exact hQ
  · simp only [List.length_singleton] at hi'
    obtain rfl : i = 0 := by omega
    exact ⟨hi, fun c hc => ⟨(hs c hc).1, fun e => (hs c hc).2 (by simp only [Value.ownBlock, Option.some.injEq] at e; exact e)⟩⟩
theorem ext_grow' {w0 w w' : World} {r : Option Nat} (hx : Ext w0 w) (hg : w.grownBy w' r) (hr : ∀ c, r = some c → w0.heap.size ≤ c) : Ext w0 w' := by
  have hs := hx.size
  exact Below.trans hx ⟨hg.os, hg.tape, hg.output, hg.size, fun i hi => hg.block i (by omega) fun he => by have := hr i he.symm; omega⟩
theorem sl2From_ok (n : Nat) (hn : n ≤ 8) : ∀ (f : Nat), f ≤ 8 → ∀ (p : Nat), 1 ≤ p → p ≤ 10 → n + 1 - p ≤ f → ∀ w, Fn 153 [.int .i64 n, .int .i64 p] w (fun r w' => NestP fI 3 32 (fun c => w.heap.size ≤ c) w' r (fromG n f p)) := by
  have base : ∀ (f p : Nat), n < p → fromG n f p = [[]] → ∀ w, Fn 153 [.int .i64 n, .int .i64 p] w (fun r w' => NestP fI 3 32 (fun c => w.heap.size ≤ c) w' r (fromG n f p)) := by
    intro f p hlt hf w
    have hI : (n : Int) < p := by omega
    have hJ : ¬ (p : Int) ≤ n := by omega
    (refine callsV_of mix Tryz.func153 c_sl2From ?_; simp only [↓vsd, vsn, gW, qd, qv, ev, pick, argE, zipE, ne_eq, eq_self, forall_const, implies_true, if_true, if_false, reduceIte, reduceCtorEq, Nat.reduceEqDiff, Nat.reduceAdd, Nat.reduceLT, ↓us_sl2From, r_sl2From])
    simp only [↓vsd, vsn, gW, qd, qv, ev, pick, argE, zipE, ne_eq, eq_self, forall_const, implies_true, if_true, if_false, reduceIte, reduceCtorEq, Nat.reduceEqDiff, Nat.reduceAdd, Nat.reduceLT, ↓us_sl2From, r_sl2From, hI, hJ]
    refine m_bsl (one_el rfl) ?_
    rintro b w1 hb hblk hx1 hs1
    simp only [↓vsd, vsn, gW, qd, qv, ev, pick, argE, zipE, ne_eq, eq_self, forall_const, implies_true, if_true, if_false, reduceIte, reduceCtorEq, Nat.reduceEqDiff, Nat.reduceAdd, Nat.reduceLT, ↓us_sl2From, r_sl2From]
    refine ⟨hx1, ?_⟩
    rw [hf]
    exact nest_one (s := SV.nil) hblk (by omega) (Own.nil fI_len) (fun c hc => by cases hc)
  intro f
  induction f with
  | zero =>
    intro hf p hp hp2 hnp w
    exact base 0 p (by omega) rfl w
  | succ f ih =>
    intro hf p hp hp2 hnp w
    by_cases hlt : n < p
    · exact base (f + 1) p hlt (by rw [fromG, if_pos hlt]) w
    · have hI : ¬ (n : Int) < p := by omega
      have hJ : (p : Int) ≤ n := by omega
      (refine callsV_of mix Tryz.func153 c_sl2From ?_; simp only [↓vsd, vsn, gW, qd, qv, ev, pick, argE, zipE, ne_eq, eq_self, forall_const, implies_true, if_true, if_false, reduceIte, reduceCtorEq, Nat.reduceEqDiff, Nat.reduceAdd, Nat.reduceLT, ↓us_sl2From, r_sl2From])
      simp only [↓vsd, vsn, gW, qd, qv, ev, pick, argE, zipE, ne_eq, eq_self, forall_const, implies_true, if_true, if_false, reduceIte, reduceCtorEq, Nat.reduceEqDiff, Nat.reduceAdd, Nat.reduceLT, ↓us_sl2From, r_sl2From, hI, hJ]
      have e1 : (p : Int) + 1 = (p + 1 : Nat) := rfl
      have e2 : (p : Int) + 2 = (p + 2 : Nat) := rfl
      rw [e1]
      refine ⟨inR_i64 (by omega), m_call (ih (by omega) (p + 1) (by omega) (by omega) (by omega) w) ?_⟩
      rintro t1 w1 hx1 hN1
      obtain ⟨us, hq1, hul, hin⟩ := nest_split hN1
      have hfl := fromG_len n f (p + 1)
      have hf8 : 2 ^ f ≤ 2 ^ 8 := Nat.pow_le_pow_right (by decide) (by omega)
      have hf9 : (2 : Nat) ^ 8 = 256 := by decide
      simp only [↓vsd, vsn, gW, qd, qv, ev, pick, argE, zipE, ne_eq, eq_self, forall_const, implies_true, if_true, if_false, reduceIte, reduceCtorEq, Nat.reduceEqDiff, Nat.reduceAdd, Nat.reduceLT, ↓us_sl2From, r_sl2From, hq1.facts, hul]
      refine m_upto (fromG n f (p + 1)).length (fun k vs w' => ∃ o, vs = [o, .int .i64 k] ∧ NestP fI 3 32 (fun c => w1.heap.size ≤ c) w' o (((fromG n f (p + 1)).take k).map fun r => (p : Int) :: r) ∧ Ext w1 w') ⟨_, rfl, NestP.nil, Ext.refl _⟩ ?_
      rintro k vs w2 hk ⟨o, rfl, hn2, hx2⟩
      by_cases hkl : k < (fromG n f (p + 1)).length
      · have hkI : (k : Int) < (fromG n f (p + 1)).length := by omega
        have hkJ : ¬ ((fromG n f (p + 1)).length : Int) ≤ k := by omega
        have hku : k < us.length := by omega
        have hq2 := hq1.ext hx2
        have hin2 := (hin k hkl).ext hx2
        have hrl := (fromG_mem n f (p + 1) (by omega) _ (getD_mem [] hkl)).1
        simp only [↓vsd, vsn, gW, qd, qv, ev, pick, argE, zipE, ne_eq, eq_self, forall_const, implies_true, if_true, if_false, reduceIte, reduceCtorEq, Nat.reduceEqDiff, Nat.reduceAdd, Nat.reduceLT, ↓us_sl2From, r_sl2From, hq2.facts, hul, hkI, hkJ, hq2.at1 SV.nil hku, fSV_get]
        refine ⟨by omega, m_bsl (one_el rfl) ?_⟩
        rintro b3 w3 hb3 hblk3 hx3 hs3
        have hx3 : Ext w2 w3 := by first | exact hx3 | exact ud hx3
        have hb3 : b3 = w2.heap.size := hb3
        simp only [↓vsd, vsn, gW, qd, qv, ev, pick, argE, zipE, ne_eq, eq_self, forall_const, implies_true, if_true, if_false, reduceIte, reduceCtorEq, Nat.reduceEqDiff, Nat.reduceAdd, Nat.reduceLT, ↓us_sl2From, r_sl2From]
        have hone : Own fI 1 3 w2.heap.size w3 (.slice (some ⟨b3, 0, none⟩) 1 1) [(p : Int)] := Own.one fI_len hblk3 rfl (by omega)
        refine m_app2 hone (hin2.ext hx3) fI_one (by decide) (by simp only [List.length_singleton]; omega) (by decide) hx3.size ?_
        rintro u4 w4 hu4 hg4 hb4
        have hx4 : Ext w2 w4 := ext_grow' hx3 hg4 (fun c hc => (hone.bound c hc).1)
        obtain ⟨s4, rfl⟩ := hu4.sq.sv
        simp only [↓vsd, vsn, gW, qd, qv, ev, pick, argE, zipE, ne_eq, eq_self, forall_const, implies_true, if_true, if_false, reduceIte, reduceCtorEq, Nat.reduceEqDiff, Nat.reduceAdd, Nat.reduceLT, ↓us_sl2From, r_sl2From]
        refine m_bsl (one_el s4.csize) ?_
        rintro b5 w5 hb5 hblk5 hx5 hs5
        have hx25 := hx4.trans hx5
        simp only [↓vsd, vsn, gW, qd, qv, ev, pick, argE, zipE, ne_eq, eq_self, forall_const, implies_true, if_true, if_false, reduceIte, reduceCtorEq, Nat.reduceEqDiff, Nat.reduceAdd, Nat.reduceLT, ↓us_sl2From, r_sl2From]
        refine m_push (s := s4) (hn2.ext hx25) (Sq.one fSV_len hblk5 rfl) (hu4.zero.ext hx5) (fun c hc => ⟨by have := (hu4.bound c hc).1; have := hx2.size; omega, fun e => by
            obtain ⟨vs', ho', _⟩ := hn2
            have h1 := ho'.lt c e
            have h2 := (hu4.bound c hc).1
            omega⟩) (fun c hc => by have := (hx2.trans hx25).size; omega) (by rw [List.length_map, List.length_take]; omega) rfl (by decide) ?_
        rintro o6 w6 hn6 hg6 _
        have hx6 : Ext w1 w6 := ext_grow' (hx2.trans hx25) hg6 (fun c hc => by
          obtain ⟨vs', _, hQ', _⟩ := hn2
          exact hQ' c hc)
        simp only [↓vsd, vsn, gW, qd, qv, ev, pick, argE, zipE, ne_eq, eq_self, forall_const, implies_true, if_true, if_false, reduceIte, reduceCtorEq, Nat.reduceEqDiff, Nat.reduceAdd, Nat.reduceLT, ↓us_sl2From, r_sl2From]
        refine ⟨inR_i64 (by omega), UpTo.next hkl ⟨o6, rfl, hn6.to ?_, hx6⟩⟩
        rw [map_take_succ _ [] _ _ hkl]
        rfl
      · obtain rfl : k = (fromG n f (p + 1)).length := by omega
        have hkI : ¬ ((fromG n f (p + 1)).length : Int) < (fromG n f (p + 1)).length := by omega
        rw [List.take_length] at hn2
        by_cases hpn : p < n
        · have hpI : (p : Int) < n := by omega
          have hpJ : ¬ (n : Int) ≤ p := by omega
          simp only [↓vsd, vsn, gW, qd, qv, ev, pick, argE, zipE, ne_eq, eq_self, forall_const, implies_true, if_true, if_false, reduceIte, reduceCtorEq, Nat.reduceEqDiff, Nat.reduceAdd, Nat.reduceLT, ↓us_sl2From, r_sl2From, hkI, hpI, hpJ]
          rw [e2]
          refine ⟨inR_i64 (by omega), m_call (ih (by omega) (p + 2) (by omega) (by omega) (by omega) _) ?_⟩
          rintro t3 w3 hx3 hN3
          simp only [↓vsd, vsn, gW, qd, qv, ev, pick, argE, zipE, ne_eq, eq_self, forall_const, implies_true, if_true, if_false, reduceIte, reduceCtorEq, Nat.reduceEqDiff, Nat.reduceAdd, Nat.reduceLT, ↓us_sl2From, r_sl2From]
          have hn3 := hn2.ext hx3
          have hfl2 := fromG_len n f (p + 2)
          refine m_extend (hn3.mono fun c hc => (show w.heap.size ≤ c by have := hx1.size; omega)) (hN3.mono fun c hc => ⟨by have := (hx1.trans hx2).size; omega, fun e => by
              obtain ⟨vs', ho', _⟩ := hn2
              have h1 := ho'.lt c e
              omega⟩) (fun c hc => by have := ((hx1.trans hx2).trans hx3).size; omega) (by rw [List.length_map]; omega) rfl (by decide) ?_
          rintro o4 w4 hn4 hg4 _
          have hx4 : Ext w w4 := ext_grow' ((hx1.trans hx2).trans hx3) hg4 (fun c hc => by
            obtain ⟨vs', _, hQ', _⟩ := hn2
            have h1 := hQ' c hc
            have := hx1.size; omega)
          simp only [↓vsd, vsn, gW, qd, qv, ev, pick, argE, zipE, ne_eq, eq_self, forall_const, implies_true, if_true, if_false, reduceIte, reduceCtorEq, Nat.reduceEqDiff, Nat.reduceAdd, Nat.reduceLT, ↓us_sl2From, r_sl2From]
          exact ⟨hx4, hn4.to (by rw [fromG, if_neg hlt, if_pos hpn])⟩
        · have hpI : ¬ (p : Int) < n := by omega
          simp only [↓vsd, vsn, gW, qd, qv, ev, pick, argE, zipE, ne_eq, eq_self, forall_const, implies_true, if_true, if_false, reduceIte, reduceCtorEq, Nat.reduceEqDiff, Nat.reduceAdd, Nat.reduceLT, ↓us_sl2From, r_sl2From, hkI, hpI]
          exact ⟨hx1.trans hx2, (hn2.mono fun c hc => (show w.heap.size ≤ c by have := hx1.size; omega)).to (by rw [fromG, if_neg hlt, if_neg hpn, List.append_nil])⟩
theorem sl1OwnS_ok (v : Value) (l : List (List UInt8)) (hl : l.length ≤ 1000000) (w : World) (h : Sq fS 1 w v l) : Fn 144 [v] w (fun r w' => Own fS 1 9 w.heap.size w' r l) := by
  (refine callsV_of mix Tryz.func144 c_sl1OwnS ?_; simp only [↓vsd, vsn, gW, qd, qv, ev, pick, argE, zipE, ne_eq, eq_self, forall_const, implies_true, if_true, if_false, reduceIte, reduceCtorEq, Nat.reduceEqDiff, Nat.reduceAdd, Nat.reduceLT, ↓us_sl1OwnS, r_sl1OwnS])
  refine m_bsl (by simp) ?_
  rintro b w1 hb hblk hx1 hs1
  simp only [↓vsd, vsn, gW, qd, qv, ev, pick, argE, zipE, ne_eq, eq_self, forall_const, implies_true, if_true, if_false, reduceIte, reduceCtorEq, Nat.reduceEqDiff, Nat.reduceAdd, Nat.reduceLT, ↓us_sl1OwnS, r_sl1OwnS]
  refine m_app (Own.empty (B := w.heap.size) fS_len hblk (by omega)) (h.ext hx1) fS_one (by decide) (by simp; omega) (by decide) hx1.size ?_
  rintro v2 w2 ho2 hg2
  simp only [↓vsd, vsn, gW, qd, qv, ev, pick, argE, zipE, ne_eq, eq_self, forall_const, implies_true, if_true, if_false, reduceIte, reduceCtorEq, Nat.reduceEqDiff, Nat.reduceAdd, Nat.reduceLT, ↓us_sl1OwnS, r_sl1OwnS]
  exact ⟨(Own.empty (B := w.heap.size) fS_len hblk (by omega)).grown hx1 (Nat.le_refl _) hg2, ho2⟩
theorem less_total : ∀ (a b : List UInt8), (!(Op.bytesLess a b || decide (a = b))) = Op.bytesLess b a := by
  intro a
  induction a with
  | nil => intro b; cases b <;> simp [Op.bytesLess]
  | cons x a ih =>
    intro b
    cases b with
    | nil => simp [Op.bytesLess]
    | cons y b =>
      simp only [Op.bytesLess]
      have h := ih b
      by_cases h1 : x < y
      · have h2 : ¬ y < x := fun h => by rw [UInt8.lt_iff_toNat_lt] at *; omega
        have h3 : ¬ y = x := fun h => by subst h; exact h2 h1
        simp [h1, h2, h3]
      · by_cases h2 : y < x
        · have h3 : ¬ x = y := fun h => by subst h; exact h1 h2
          simp [h1, h2, h3]
        · have h3 : x = y := UInt8.toNat_inj.1 (by rw [UInt8.lt_iff_toNat_lt] at *; omega)
          subst h3
          simp only [h1, decide_false, beq_self_eq_true, Bool.true_and, Bool.false_or, List.cons.injEq, true_and]
          exact h
theorem ins_set (l : List (List UInt8)) (x : List UInt8) (m : Nat) (hm : m < l.length) : (l.take (m + 1) ++ x :: l.drop (m + 1)).set (m + 1) (l.getD m []) = l.take m ++ l.getD m [] :: l.drop m := by
  have e1 : l.take (m + 1) = l.take m ++ [l.getD m []] := by
    rw [List.take_add_one, List.getElem?_eq_getElem hm, List.getD_eq_getElem?_getD, List.getElem?_eq_getElem hm]; rfl
  have e2 : l.drop m = l.getD m [] :: l.drop (m + 1) := by
    rw [List.drop_eq_getElem_cons hm, List.getD_eq_getElem?_getD, List.getElem?_eq_getElem hm]; rfl
  have hl : (l.take (m + 1)).length = m + 1 := by rw [List.length_take]; omega
  rw [List.set_append_right _ _ (by omega), hl, Nat.sub_self, e1, e2, List.append_assoc]
  rfl
theorem sl2All_ok (n : Nat) (hn : 3 ≤ n ∧ n ≤ 8) (w : World) : Fn 145 [.int .i64 n] w (fun r w' => Own fS 1 9 w.heap.size w' r (allL n)) := by
  (refine callsV_of mix Tryz.func145 c_sl2All ?_; simp only [↓vsd, vsn, gW, qd, qv, ev, pick, argE, zipE, ne_eq, eq_self, forall_const, implies_true, if_true, if_false, reduceIte, reduceCtorEq, Nat.reduceEqDiff, Nat.reduceAdd, Nat.reduceLT, ↓us_sl2All, r_sl2All])
  refine m_call (sl2From_ok n hn.2 n hn.2 1 (by omega) (by omega) (by omega) _) ?_
  rintro v1 w1 hx1 hN1
  obtain ⟨us, hq1, hul, hin⟩ := nest_split hN1
  have hfl := fromG_len n n 1
  have hf8 : 2 ^ n ≤ 2 ^ 8 := Nat.pow_le_pow_right (by decide) hn.2
  have hf9 : (2 : Nat) ^ 8 = 256 := by decide
  simp only [↓vsd, vsn, gW, qd, qv, ev, pick, argE, zipE, ne_eq, eq_self, forall_const, implies_true, if_true, if_false, reduceIte, reduceCtorEq, Nat.reduceEqDiff, Nat.reduceAdd, Nat.reduceLT, ↓us_sl2All, r_sl2All, hq1.facts, hul]
  refine m_upto (fromG n n 1).length (fun i vs w' => ∃ o, vs = [o, .int .i64 i] ∧ Own fS 1 9 w1.heap.size w' o (allGo n ((fromG n n 1).take i)) ∧ Ext w1 w') ⟨_, rfl, Own.nil fS_len, Ext.refl _⟩ ?_
  rintro i vs w2 hi ⟨o, rfl, ho2, hx2⟩
  have hal := allGo_len n ((fromG n n 1).take i)
  rw [List.length_take] at hal
  by_cases hlt : i < (fromG n n 1).length
  · have hltI : (i : Int) < (fromG n n 1).length := by omega
    have hltJ : ¬ ((fromG n n 1).length : Int) ≤ i := by omega
    have hlu : i < us.length := by omega
    have hq2 := hq1.ext hx2
    have hin2 := (hin i hlt).ext hx2
    have hrl := fromG_mem n n 1 (by omega) _ (getD_mem [] hlt)
    have hsucc := allGo_succ n (fromG n n 1) i hlt
    generalize hl : allGo n ((fromG n n 1).take i) = l at *
    generalize hpl : (fromG n n 1).getD i [] = pl at *
    simp only [↓vsd, vsn, gW, qd, qv, ev, pick, argE, zipE, ne_eq, eq_self, forall_const, implies_true, if_true, if_false, reduceIte, reduceCtorEq, Nat.reduceEqDiff, Nat.reduceAdd, Nat.reduceLT, ↓us_sl2All, r_sl2All, hq2.facts, hul, hltI, hltJ, hq2.at1 SV.nil hlu, fSV_get]
    refine ⟨by omega, m_call (sl2Of_ok _ pl (by omega) (fun x hx => by have := hrl.2 x hx; omega) _ (by first | exact hin2 | exact hin2.ext (dr (Ext.refl _)))) ?_⟩
    rintro _ w3 hx3 rfl
    have hx3 : Ext w2 w3 := by first | exact hx3 | exact ud hx3
    have hofl : (ofL pl).length ≤ 1048576 := by unfold ofL; split <;> simp; omega
    simp only [↓vsd, vsn, gW, qd, qv, ev, pick, argE, zipE, ne_eq, eq_self, forall_const, implies_true, if_true, if_false, reduceIte, reduceCtorEq, Nat.reduceEqDiff, Nat.reduceAdd, Nat.reduceLT, ↓us_sl2All, r_sl2All]
    refine m_call (sl2Change_ok n (ofL pl) hofl _) ?_
    rintro _ w4 hx4 rfl
    have ho4 := (ho2.ext hx3).ext hx4
    have hx14 := (hx2.trans hx3).trans hx4
    by_cases hc : IsChange n (ofL pl)
    · rw [if_pos hc] at hsucc
      simp only [↓vsd, vsn, gW, qd, qv, ev, pick, argE, zipE, ne_eq, eq_self, forall_const, implies_true, if_true, if_false, reduceIte, reduceCtorEq, Nat.reduceEqDiff, Nat.reduceAdd, Nat.reduceLT, ↓us_sl2All, r_sl2All, hc, ho4.sq.facts]
      refine m_bsl (one_el rfl) ?_
      rintro b5 w5 hb5 hblk5 hx5 hs5
      simp only [↓vsd, vsn, gW, qd, qv, ev, pick, argE, zipE, ne_eq, eq_self, forall_const, implies_true, if_true, if_false, reduceIte, reduceCtorEq, Nat.reduceEqDiff, Nat.reduceAdd, Nat.reduceLT, ↓us_sl2All, r_sl2All]
      refine m_app2 (ho4.ext hx5) (Sq.one fS_len hblk5 rfl) fS_one (by decide) (by simp; omega) (by decide) ((hx14.trans hx5).size) ?_
      rintro o6 w6 ho6 hg6 _
      have hx6 := (ho4.ext hx5).grown (hx14.trans hx5) (Nat.le_refl _) hg6
      simp only [↓vsd, vsn, gW, qd, qv, ev, pick, argE, zipE, ne_eq, eq_self, forall_const, implies_true, if_true, if_false, reduceIte, reduceCtorEq, Nat.reduceEqDiff, Nat.reduceAdd, Nat.reduceLT, ↓us_sl2All, r_sl2All]
      refine m_loop (fun m vs w' => ∃ x, vs = [.int .i64 m] ∧ Own fS 1 9 w1.heap.size w' o6 (l.take m ++ x :: l.drop m) ∧ insAt (ofL pl) l m = insAt (ofL pl) l l.length ∧ m ≤ l.length ∧ Ext w1 w') l.length ⟨ofL pl, rfl, ho6.to (by simp), rfl, Nat.le_refl _, hx6⟩ ?_
      rintro m vs w7 ⟨x, rfl, ho7, hins, hml, hx7⟩
      have hll : (l.take m ++ x :: l.drop m).length = l.length + 1 := by simp; omega
      cases m with
      | zero =>
        have h0I : ¬ 0 < ((0 : Nat) : Int) := by omega
        simp only [↓vsd, vsn, gW, qd, qv, ev, pick, argE, zipE, ne_eq, eq_self, forall_const, implies_true, if_true, if_false, reduceIte, reduceCtorEq, Nat.reduceEqDiff, Nat.reduceAdd, Nat.reduceLT, ↓us_sl2All, r_sl2All, ho7.sq.facts, hll, h0I]
        refine ⟨by omega, m_set1 0 (ofL pl) ho7 rfl (by omega) rfl fS_one ?_⟩
        rintro w8 ho8 hg8 _
        have hx8 := ho7.grown hx7 (Nat.le_refl _) hg8
        simp only [↓vsd, vsn, gW, qd, qv, ev, pick, argE, zipE, ne_eq, eq_self, forall_const, implies_true, if_true, if_false, reduceIte, reduceCtorEq, Nat.reduceEqDiff, Nat.reduceAdd, Nat.reduceLT, ↓us_sl2All, r_sl2All]
        refine ⟨inR_i64 (by omega), UpTo.next hlt ⟨o6, rfl, ho8.to ?_, hx8⟩⟩
        rw [hsucc, insL, ← hins]
        rfl
      | succ m =>
        have hg : (l.take (m + 1) ++ x :: l.drop (m + 1)).getD m [] = l.getD m [] := by
          rw [List.getD_eq_getElem?_getD, List.getElem?_append_left (by rw [List.length_take]; omega), List.getElem?_take, if_pos (by omega), List.getD_eq_getElem?_getD]
        have eI : ((m + 1 : Nat) : Int) - 1 = (m : Nat) := by omega
        have hmI : 0 < ((m + 1 : Nat) : Int) := by omega
        have hmJ : ¬ ((m + 1 : Nat) : Int) ≤ 0 := by omega
        have hml2 : m < (l.take (m + 1) ++ x :: l.drop (m + 1)).length := by omega
        simp only [↓vsd, vsn, gW, qd, qv, ev, pick, argE, zipE, ne_eq, eq_self, forall_const, implies_true, if_true, if_false, reduceIte, reduceCtorEq, Nat.reduceEqDiff, Nat.reduceAdd, Nat.reduceLT, ↓us_sl2All, r_sl2All, ho7.sq.facts, hll, hmI, hmJ, eI, ho7.sq.at1 [] hml2, hg, less_total]
        refine ⟨inR_i64 (by omega), by omega, fun hgt => ⟨inR_i64 (by omega), by omega, by omega, m_set1 (m + 1) (l.getD m []) ho7 rfl (by omega) rfl fS_one ?_⟩, fun hng => ⟨by omega, m_set1 (m + 1) (ofL pl) ho7 rfl (by omega) rfl fS_one ?_⟩⟩
        · rintro w8 ho8 hg8 _
          have hx8 := ho7.grown hx7 (Nat.le_refl _) hg8
          simp only [↓vsd, vsn, gW, qd, qv, ev, pick, argE, zipE, ne_eq, eq_self, forall_const, implies_true, if_true, if_false, reduceIte, reduceCtorEq, Nat.reduceEqDiff, Nat.reduceAdd, Nat.reduceLT, ↓us_sl2All, r_sl2All, eI]
          refine ⟨inR_i64 (by omega), m, by omega, l.getD m [], rfl, ho8.to (ins_set l x m (by omega)), ?_, by omega, hx8⟩
          rw [← hins, insAt, if_pos hgt]
        · rintro w8 ho8 hg8 _
          have hx8 := ho7.grown hx7 (Nat.le_refl _) hg8
          simp only [↓vsd, vsn, gW, qd, qv, ev, pick, argE, zipE, ne_eq, eq_self, forall_const, implies_true, if_true, if_false, reduceIte, reduceCtorEq, Nat.reduceEqDiff, Nat.reduceAdd, Nat.reduceLT, ↓us_sl2All, r_sl2All]
          refine ⟨inR_i64 (by omega), UpTo.next hlt ⟨o6, rfl, ho8.to ?_, hx8⟩⟩
          rw [hsucc, insL, ← hins, insAt, if_neg hng, List.set_append_right _ _ (by rw [List.length_take]; omega), List.length_take, Nat.min_eq_left (by omega), Nat.sub_self]
          rfl
    · rw [if_neg hc] at hsucc
      simp only [↓vsd, vsn, gW, qd, qv, ev, pick, argE, zipE, ne_eq, eq_self, forall_const, implies_true, if_true, if_false, reduceIte, reduceCtorEq, Nat.reduceEqDiff, Nat.reduceAdd, Nat.reduceLT, ↓us_sl2All, r_sl2All, hc]
      exact ⟨inR_i64 (by omega), UpTo.next hlt ⟨o, rfl, ho4.to hsucc.symm, hx14⟩⟩
  · obtain rfl : i = (fromG n n 1).length := by omega
    have hltI : ¬ ((fromG n n 1).length : Int) < (fromG n n 1).length := by omega
    simp only [↓vsd, vsn, gW, qd, qv, ev, pick, argE, zipE, ne_eq, eq_self, forall_const, implies_true, if_true, if_false, reduceIte, reduceCtorEq, Nat.reduceEqDiff, Nat.reduceAdd, Nat.reduceLT, ↓us_sl2All, r_sl2All, hltI]
    rw [List.take_length] at ho2
    exact ⟨hx1.trans hx2, ho2.mono hx1.size⟩
theorem sl1Cur_change_ok (W : World) (b n : Nat) (m : Nat) (hm : 3 ≤ m ∧ m ≤ 8) (w : World) (hn : n ≤ 800000000) (hc : Cur W b n w) : CurFn 112 [cV b, .int .i64 m] W b n 2 w (fun r _ => ∃ x, r = S x ∧ IsChange m x) := by
  (refine callsV_of mix Tryz.func112 c_sl1Cur_change ?_; simp only [↓vsd, vsn, gW, qd, qv, ev, pick, argE, zipE, ne_eq, eq_self, forall_const, implies_true, if_true, if_false, reduceIte, reduceCtorEq, Nat.reduceEqDiff, Nat.reduceAdd, Nat.reduceLT, ↓us_sl1Cur_change, r_sl1Cur_change])
  refine m_call (sl2All_ok m hm _) ?_
  rintro v1 w1 hx1 ho1
  have hs := allL_some m (by omega) hm.1
  have hall := allL_change m (by omega) hm.1
  have hlt := hc.lt
  simp only [↓vsd, vsn, gW, qd, qv, ev, pick, argE, zipE, ne_eq, eq_self, forall_const, implies_true, if_true, if_false, reduceIte, reduceCtorEq, Nat.reduceEqDiff, Nat.reduceAdd, Nat.reduceLT, ↓us_sl1Cur_change, r_sl1Cur_change, ho1.sq.facts]
  refine m_callw (.inl rfl) (sl1Cur_pick_ok W b n (allL m).length (by omega) w1 (by omega) (hc.ext hx1)) ?_
  rintro _ w2 ⟨hc2, hg2, x, rfl, hx⟩
  have hxl : x < (allL m).length := by omega
  have ho2 := ho1.keep hg2 (fun c hc => by obtain rfl := Option.some.inj hc; exact hlt.2)
  simp only [↓vsd, vsn, gW, qd, qv, ev, pick, argE, zipE, ne_eq, eq_self, forall_const, implies_true, if_true, if_false, reduceIte, reduceCtorEq, Nat.reduceEqDiff, Nat.reduceAdd, Nat.reduceLT, ↓us_sl1Cur_change, r_sl1Cur_change, ho2.sq.facts, ho2.sq.at1 [] hxl]
  exact ⟨by omega, hc2, grown_trans (grown_ext _ hx1) hg2, _, rfl, hall _ (getD_mem [] hxl)⟩
end Go.Proofs.YthopbkemkfjebaaGreat
