/-
  Truth by lead heads: false lead heads and clashes of both sides.
  Conditions: none.
-/
import Derived.Test.YthopbkemkfjebaaGreatKA35
import Derived.Test.YthopbkemkfjebaaGreatKA73
import Derived.Test.YthopbkemkfjebaaGreatKD3
import Derived.Test.YthopbkemkfjebaaGreatKPx
set_option linter.unusedSimpArgs false
set_option linter.unusedVariables false
set_option linter.defProp false
namespace Go.Proofs.YthopbkemkfjebaaGreat
open Go Go.RowKit
section
variable (P : Program) (k : KT) (e : Env) (w : World)
abbrev b107_1 : X := (.cond (.t 15) (.seq (.reg [4] (.c (.q 4 [] (.mv (.c (.bool true)))) .nil)) .ret) .skip)
def t107_1 := b107_1
theorem u107_1 : vcK P t107_1 k e w = vcK P b107_1 k e w := rfl
abbrev b107_2 : X := (.seq (.reg [1, 7, 8, 9, 15] (.c (.q 13 [] (.mv (.t 6))) (.c (.q 14 [] (.mv (.t 1))) (.c (.q 15 [] (.bin .eql (.t 13) (.t 14))) .nil)))) t107_1)
def t107_2 := b107_2
theorem u107_2 : vcK P t107_2 k e w = vcK P b107_2 k e w := rfl
abbrev b107_3 : X := (.reg [1, 7, 8, 9] (.c (.q 16 [] (.bin .add (.t 9) (.c (.int .i64 1)))) (.c (.q 9 [] (.mv (.t 16))) .nil)))
def t107_3 := b107_3
theorem u107_3 : vcK P t107_3 k e w = vcK P b107_3 k e w := rfl
abbrev b107_4 : X := (.seq (.blk 1 (.seq (.reg [1, 6, 7, 8, 9] (.c (.q 11 [] (.ia 1 (.t 7) (.t 9))) (.c (.q 12 [] (.ld (.t 11))) (.c (.q 6 [] (.mv (.t 12))) .nil)))) t107_2)) t107_3)
def t107_4 := b107_4
theorem u107_4 : vcK P t107_4 k e w = vcK P b107_4 k e w := rfl
abbrev b107_5 : X := (.seq (.cond (.t 10) .skip (.exit 0)) t107_4)
def t107_5 := b107_5
theorem u107_5 : vcK P t107_5 k e w = vcK P b107_5 k e w := rfl
abbrev b107_6 : X := (.seq (.reg [1, 7, 8, 9, 10] (.c (.q 10 [] (.bin .lss (.t 9) (.t 8))) .nil)) t107_5)
def t107_6 := b107_6
theorem u107_6 : vcK P t107_6 k e w = vcK P b107_6 k e w := rfl
abbrev b107_7 : X := (.blk 0 (.loop [9] [1, 7, 8] t107_6))
def t107_7 := b107_7
theorem u107_7 : vcK P t107_7 k e w = vcK P b107_7 k e w := rfl
abbrev b107_8 : X := (.seq (.reg [4] (.c (.q 4 [] (.mv (.c (.bool false)))) .nil)) .ret)
def t107_8 := b107_8
theorem u107_8 : vcK P t107_8 k e w = vcK P b107_8 k e w := rfl
abbrev b107_9 : X := (.seq (.seq (.reg [1, 7, 8, 9] (.c (.q 7 [] (.mv (.t 0))) (.c (.q 8 [] (.lens (.t 7))) (.c (.q 9 [] (.mv (.c (.int .i64 0)))) .nil)))) t107_7) t107_8)
def t107_9 := b107_9
theorem u107_9 : vcK P t107_9 k e w = vcK P b107_9 k e w := rfl
abbrev b107_0 : X := (.seq (.reg [0, 1] (.c (.q 4 [] (.mv (.c (.bool false)))) .nil)) t107_9)
def x_sl1HasS := b107_0
theorem u107_0 : vcK P x_sl1HasS k e w = vcK P b107_0 k e w := rfl
def r_sl1HasS : List XO := [(.mv (.t 4))]
theorem c_sl1HasS : convF Tryz.prog [56, 58, 59, 60, 61, 62, 72, 73, 77, 97, 98, 109, 110, 111, 112, 115, 128, 136] Tryz.f107 [([0, 1], []), ([1, 7, 8, 9], []), ([9], [1, 7, 8]), ([1, 7, 8, 9, 10], []), ([1, 6, 7, 8, 9], []), ([1, 7, 8, 9, 15], []), ([4], []), ([1, 7, 8, 9], []), ([4], [])] = some (x_sl1HasS, r_sl1HasS) := by kernel_rfl
def us_sl1HasS :=  (aI (aI (aI @u107_0 @u107_1) (aI @u107_2 (aI @u107_3 @u107_4))) (aI (aI @u107_5 @u107_6) (aI @u107_7 (aI @u107_8 @u107_9))))
abbrev b85_1 : X := (.reg [3, 5, 7, 15, 16, 17, 25, 26, 27] (.c (.q 31 [] (.mv (.t 5))) (.c (.q 32 [] (.mv (.t 7))) (.c (.q 33 [] (.mv (.t 9))) (.c (.e (some 34) [] (.call false 88 [(.t 33)])) (.c (.e (some 35) [] (.call false 87 [(.t 32), (.t 34)])) (.c (.e none [] (.mup false .string (.t 31) (.t 35) (.c (.bool true)))) .nil)))))))
def t85_1 := b85_1
theorem u85_1 : vcK P t85_1 k e w = vcK P b85_1 k e w := rfl
abbrev b85_2 : X := (.reg [3, 5, 7, 15, 16, 17, 25, 26, 27] (.c (.q 36 [] (.bin .add (.t 27) (.c (.int .i64 1)))) (.c (.q 27 [] (.mv (.t 36))) .nil)))
def t85_2 := b85_2
theorem u85_2 : vcK P t85_2 k e w = vcK P b85_2 k e w := rfl
abbrev b85_3 : X := (.seq (.blk 3 (.seq (.reg [3, 5, 7, 9, 15, 16, 17, 25, 26, 27] (.c (.q 29 [] (.ia 1 (.t 25) (.t 27))) (.c (.q 30 [] (.ld (.t 29))) (.c (.q 9 [] (.mv (.t 30))) .nil)))) t85_1)) t85_2)
def t85_3 := b85_3
theorem u85_3 : vcK P t85_3 k e w = vcK P b85_3 k e w := rfl
abbrev b85_4 : X := (.seq (.cond (.t 28) .skip (.exit 2)) t85_3)
def t85_4 := b85_4
theorem u85_4 : vcK P t85_4 k e w = vcK P b85_4 k e w := rfl
abbrev b85_5 : X := (.seq (.reg [3, 5, 7, 15, 16, 17, 25, 26, 27, 28] (.c (.q 28 [] (.bin .lss (.t 27) (.t 26))) .nil)) t85_4)
def t85_5 := b85_5
theorem u85_5 : vcK P t85_5 k e w = vcK P b85_5 k e w := rfl
abbrev b85_6 : X := (.blk 2 (.loop [27] [3, 5, 7, 15, 16, 17, 25, 26] t85_5))
def t85_6 := b85_6
theorem u85_6 : vcK P t85_6 k e w = vcK P b85_6 k e w := rfl
abbrev b85_7 : X := (.seq (.drw [3, 5, 7, 15, 16, 17, 25, 26, 27] (.c (.q 21 [] (.lda 3 (.t 3))) (.c (.q 22 [] (.fa 1 (.t 3))) (.c (.q 23 [] (.ld (.t 22))) (.c (.q 27 [] (.mv (.c (.int .i64 0)))) (.c (.e (some 24) [] (.call false 131 [(.t 23)])) (.c (.e (some 25) [] (.call false 95 [(.t 21), (.t 24)])) (.c (.q 26 [] (.lens (.t 25))) .nil)))))))) t85_6)
def t85_7 := b85_7
theorem u85_7 : vcK P t85_7 k e w = vcK P b85_7 k e w := rfl
abbrev b85_8 : X := (.reg [3, 5, 15, 16, 17] (.c (.q 37 [] (.bin .add (.t 17) (.c (.int .i64 1)))) (.c (.q 17 [] (.mv (.t 37))) .nil)))
def t85_8 := b85_8
theorem u85_8 : vcK P t85_8 k e w = vcK P b85_8 k e w := rfl
abbrev b85_9 : X := (.seq (.blk 1 (.seq (.reg [3, 5, 7, 15, 16, 17] (.c (.q 19 [] (.ia 1 (.t 15) (.t 17))) (.c (.q 20 [] (.ld (.t 19))) (.c (.q 7 [] (.mv (.t 20))) .nil)))) t85_7)) t85_8)
def t85_9 := b85_9
theorem u85_9 : vcK P t85_9 k e w = vcK P b85_9 k e w := rfl
abbrev b85_10 : X := (.seq (.cond (.t 18) .skip (.exit 0)) t85_9)
def t85_10 := b85_10
theorem u85_10 : vcK P t85_10 k e w = vcK P b85_10 k e w := rfl
abbrev b85_11 : X := (.seq (.reg [3, 5, 15, 16, 17, 18] (.c (.q 18 [] (.bin .lss (.t 17) (.t 16))) .nil)) t85_10)
def t85_11 := b85_11
theorem u85_11 : vcK P t85_11 k e w = vcK P b85_11 k e w := rfl
abbrev b85_12 : X := (.blk 0 (.loop [17] [3, 5, 15, 16] t85_11))
def t85_12 := b85_12
theorem u85_12 : vcK P t85_12 k e w = vcK P b85_12 k e w := rfl
abbrev b85_13 : X := (.seq (.reg [4] (.c (.q 38 [] (.mv (.t 5))) (.c (.q 4 [] (.mv (.t 38))) .nil))) .ret)
def t85_13 := b85_13
theorem u85_13 : vcK P t85_13 k e w = vcK P b85_13 k e w := rfl
abbrev b85_14 : X := (.seq (.seq (.drw [3, 5, 15, 16, 17] (.c (.q 11 [] (.lda 3 (.t 2))) (.c (.q 12 [] (.fa 1 (.t 2))) (.c (.q 13 [] (.ld (.t 12))) (.c (.q 17 [] (.mv (.c (.int .i64 0)))) (.c (.e (some 14) [] (.call false 131 [(.t 13)])) (.c (.e (some 15) [] (.call false 95 [(.t 11), (.t 14)])) (.c (.q 16 [] (.lens (.t 15))) .nil)))))))) t85_12) t85_13)
def t85_14 := b85_14
theorem u85_14 : vcK P t85_14 k e w = vcK P b85_14 k e w := rfl
abbrev b85_15 : X := (.seq (.reg [2, 3, 5] (.c (.e (some 10) [] .mkmap) (.c (.q 5 [] (.mv (.t 10))) .nil))) t85_14)
def t85_15 := b85_15
theorem u85_15 : vcK P t85_15 k e w = vcK P b85_15 k e w := rfl
abbrev b85_0 : X := (.seq (.reg [2, 3] (.c (.e (some 2) [] (.box 25 (.t 0))) (.c (.e (some 3) [] (.box 25 (.t 1))) (.c (.q 4 [] (.mv (.c (.map none)))) .nil)))) t85_15)
def x_ifalseSet := b85_0
theorem u85_0 : vcK P x_ifalseSet k e w = vcK P b85_0 k e w := rfl
def r_ifalseSet : List XO := [(.mv (.t 4))]
theorem c_ifalseSet : convF Tryz.prog [56, 58, 59, 60, 61, 62, 72, 73, 77, 97, 98, 109, 110, 111, 112, 115, 128, 136] Tryz.f85 [([2, 3], []), ([2, 3, 5], []), ([3, 5, 15, 16, 17], []), ([17], [3, 5, 15, 16]), ([3, 5, 15, 16, 17, 18], []), ([3, 5, 7, 15, 16, 17], []), ([3, 5, 7, 15, 16, 17, 25, 26, 27], []), ([27], [3, 5, 7, 15, 16, 17, 25, 26]), ([3, 5, 7, 15, 16, 17, 25, 26, 27, 28], []), ([3, 5, 7, 9, 15, 16, 17, 25, 26, 27], []), ([3, 5, 7, 15, 16, 17, 25, 26, 27], []), ([3, 5, 7, 15, 16, 17, 25, 26, 27], []), ([3, 5, 15, 16, 17], []), ([4], [])] = some (x_ifalseSet, r_ifalseSet) := by kernel_rfl
def us_ifalseSet :=  (aI (aI (aI (aI @u85_0 @u85_1) (aI @u85_2 @u85_3)) (aI (aI @u85_4 @u85_5) (aI @u85_6 @u85_7))) (aI (aI (aI @u85_8 @u85_9) (aI @u85_10 @u85_11)) (aI (aI @u85_12 @u85_13) (aI @u85_14 @u85_15))))
abbrev b86_1 : X := (.seq (.drw [2] (.c (.q 3 [] (.lda 3 (.t 1))) (.c (.q 4 [] (.fa 1 (.t 1))) (.c (.q 5 [] (.ld (.t 4))) (.c (.e (some 6) [] (.call false 131 [(.t 5)])) (.c (.e (some 7) [] (.call false 95 [(.t 3), (.t 6)])) (.c (.e (some 8) [] (.call false 133 [(.t 7)])) (.c (.q 2 [] (.mv (.t 8))) .nil)))))))) .ret)
def t86_1 := b86_1
theorem u86_1 : vcK P t86_1 k e w = vcK P b86_1 k e w := rfl
abbrev b86_0 : X := (.seq (.reg [1] (.c (.e (some 1) [] (.box 25 (.t 0))) (.c (.q 2 [] (.mv (.c (.bool false)))) .nil))) t86_1)
def x_ileadTrue := b86_0
theorem u86_0 : vcK P x_ileadTrue k e w = vcK P b86_0 k e w := rfl
def r_ileadTrue : List XO := [(.mv (.t 2))]
theorem c_ileadTrue : convF Tryz.prog [56, 58, 59, 60, 61, 62, 72, 73, 77, 97, 98, 109, 110, 111, 112, 115, 128, 136] Tryz.f86 [([1], []), ([2], [])] = some (x_ileadTrue, r_ileadTrue) := by kernel_rfl
def us_ileadTrue :=  (aI @u86_0 @u86_1)
abbrev b106_1 : X := (.reg [3, 4, 6, 17, 18, 19, 23, 24, 25] (.c (.q 29 [] (.mv (.t 4))) (.c (.q 30 [] (.mv (.t 6))) (.c (.q 31 [] (.mv (.t 8))) (.c (.e (some 32) [] (.call false 94 [(.t 31)])) (.c (.e (some 33) [] (.call false 93 [(.t 30), (.t 32)])) (.c (.e (some 34) [] (.bsl 9 1 [(.t 33)])) (.c (.e (some 35) [] (.app 23 9 1 16 [(S [])] 23 (.t 29) (.t 34))) (.c (.q 4 [] (.mv (.t 35))) .nil)))))))))
def t106_1 := b106_1
theorem u106_1 : vcK P t106_1 k e w = vcK P b106_1 k e w := rfl
abbrev b106_2 : X := (.reg [3, 4, 6, 17, 18, 19, 23, 24, 25] (.c (.q 36 [] (.bin .add (.t 25) (.c (.int .i64 1)))) (.c (.q 25 [] (.mv (.t 36))) .nil)))
def t106_2 := b106_2
theorem u106_2 : vcK P t106_2 k e w = vcK P b106_2 k e w := rfl
abbrev b106_3 : X := (.seq (.blk 3 (.seq (.reg [3, 4, 6, 8, 17, 18, 19, 23, 24, 25] (.c (.q 27 [] (.ia 1 (.t 23) (.t 25))) (.c (.q 28 [] (.ld (.t 27))) (.c (.q 8 [] (.mv (.t 28))) .nil)))) t106_1)) t106_2)
def t106_3 := b106_3
theorem u106_3 : vcK P t106_3 k e w = vcK P b106_3 k e w := rfl
abbrev b106_4 : X := (.seq (.cond (.t 26) .skip (.exit 2)) t106_3)
def t106_4 := b106_4
theorem u106_4 : vcK P t106_4 k e w = vcK P b106_4 k e w := rfl
abbrev b106_5 : X := (.seq (.reg [3, 4, 6, 17, 18, 19, 23, 24, 25, 26] (.c (.q 26 [] (.bin .lss (.t 25) (.t 24))) .nil)) t106_4)
def t106_5 := b106_5
theorem u106_5 : vcK P t106_5 k e w = vcK P b106_5 k e w := rfl
abbrev b106_6 : X := (.blk 2 (.loop [4, 25] [3, 6, 17, 18, 19, 23, 24] t106_5))
def t106_6 := b106_6
theorem u106_6 : vcK P t106_6 k e w = vcK P b106_6 k e w := rfl
abbrev b106_7 : X := (.seq (.reg [3, 4, 6, 17, 18, 19, 23, 24, 25] (.c (.q 23 [] (.mv (.t 3))) (.c (.q 24 [] (.lens (.t 23))) (.c (.q 25 [] (.mv (.c (.int .i64 0)))) .nil)))) t106_6)
def t106_7 := b106_7
theorem u106_7 : vcK P t106_7 k e w = vcK P b106_7 k e w := rfl
abbrev b106_8 : X := (.reg [3, 4, 17, 18, 19] (.c (.q 37 [] (.bin .add (.t 19) (.c (.int .i64 1)))) (.c (.q 19 [] (.mv (.t 37))) .nil)))
def t106_8 := b106_8
theorem u106_8 : vcK P t106_8 k e w = vcK P b106_8 k e w := rfl
abbrev b106_9 : X := (.seq (.blk 1 (.seq (.reg [3, 4, 6, 17, 18, 19] (.c (.q 21 [] (.ia 1 (.t 17) (.t 19))) (.c (.q 22 [] (.ld (.t 21))) (.c (.q 6 [] (.mv (.t 22))) .nil)))) t106_7)) t106_8)
def t106_9 := b106_9
theorem u106_9 : vcK P t106_9 k e w = vcK P b106_9 k e w := rfl
abbrev b106_10 : X := (.seq (.cond (.t 20) .skip (.exit 0)) t106_9)
def t106_10 := b106_10
theorem u106_10 : vcK P t106_10 k e w = vcK P b106_10 k e w := rfl
abbrev b106_11 : X := (.seq (.reg [3, 4, 17, 18, 19, 20] (.c (.q 20 [] (.bin .lss (.t 19) (.t 18))) .nil)) t106_10)
def t106_11 := b106_11
theorem u106_11 : vcK P t106_11 k e w = vcK P b106_11 k e w := rfl
abbrev b106_12 : X := (.blk 0 (.loop [4, 19] [3, 17, 18] t106_11))
def t106_12 := b106_12
theorem u106_12 : vcK P t106_12 k e w = vcK P b106_12 k e w := rfl
abbrev b106_13 : X := (.cond (.t 57) (.reg [9, 39, 40, 41] (.c (.q 58 [] (.mv (.t 9))) (.c (.q 59 [] (.mv (.t 11))) (.c (.e (some 60) [] (.bsl 9 1 [(.t 59)])) (.c (.e (some 61) [] (.app 23 9 1 16 [(S [])] 23 (.t 58) (.t 60))) (.c (.q 9 [] (.mv (.t 61))) .nil)))))) .skip)
def t106_13 := b106_13
theorem u106_13 : vcK P t106_13 k e w = vcK P b106_13 k e w := rfl
abbrev b106_14 : X := (.seq (.reg [9, 11, 39, 40, 41, 57] (.c (.q 45 [] (.mv (.t 9))) (.c (.q 46 [] (.lens (.t 45))) (.c (.q 47 [] (.bin .eql (.t 46) (.c (.int .i64 0)))) (.c (.q 48 [] (.mv (.t 47))) (.c (.q 49 [(48, false)] (.mv (.t 9))) (.c (.q 50 [(48, false)] (.mv (.t 9))) (.c (.q 51 [(48, false)] (.lens (.t 50))) (.c (.q 52 [(48, false)] (.bin .sub (.t 51) (.c (.int .i64 1)))) (.c (.q 53 [(48, false)] (.ia 1 (.t 49) (.t 52))) (.c (.q 54 [(48, false)] (.ld (.t 53))) (.c (.q 55 [(48, false)] (.mv (.t 11))) (.c (.q 56 [(48, false)] (.bin .neq (.t 54) (.t 55))) (.c (.q 57 [] (.pick (.t 48) (.c (.bool true)) (.t 56))) .nil)))))))))))))) t106_13)
def t106_14 := b106_14
theorem u106_14 : vcK P t106_14 k e w = vcK P b106_14 k e w := rfl
abbrev b106_15 : X := (.reg [9, 39, 40, 41] (.c (.q 62 [] (.bin .add (.t 41) (.c (.int .i64 1)))) (.c (.q 41 [] (.mv (.t 62))) .nil)))
def t106_15 := b106_15
theorem u106_15 : vcK P t106_15 k e w = vcK P b106_15 k e w := rfl
abbrev b106_16 : X := (.seq (.blk 5 (.seq (.reg [9, 11, 39, 40, 41] (.c (.q 43 [] (.ia 1 (.t 39) (.t 41))) (.c (.q 44 [] (.ld (.t 43))) (.c (.q 11 [] (.mv (.t 44))) .nil)))) t106_14)) t106_15)
def t106_16 := b106_16
theorem u106_16 : vcK P t106_16 k e w = vcK P b106_16 k e w := rfl
abbrev b106_17 : X := (.seq (.cond (.t 42) .skip (.exit 4)) t106_16)
def t106_17 := b106_17
theorem u106_17 : vcK P t106_17 k e w = vcK P b106_17 k e w := rfl
abbrev b106_18 : X := (.seq (.reg [9, 39, 40, 41, 42] (.c (.q 42 [] (.bin .lss (.t 41) (.t 40))) .nil)) t106_17)
def t106_18 := b106_18
theorem u106_18 : vcK P t106_18 k e w = vcK P b106_18 k e w := rfl
abbrev b106_19 : X := (.blk 4 (.loop [9, 41] [39, 40] t106_18))
def t106_19 := b106_19
theorem u106_19 : vcK P t106_19 k e w = vcK P b106_19 k e w := rfl
abbrev b106_20 : X := (.seq (.reg [2] (.c (.q 63 [] (.mv (.t 9))) (.c (.q 2 [] (.mv (.t 63))) .nil))) .ret)
def t106_20 := b106_20
theorem u106_20 : vcK P t106_20 k e w = vcK P b106_20 k e w := rfl
abbrev b106_21 : X := (.seq (.seq (.reg [9, 39, 40, 41] (.c (.q 38 [] (.mv (.t 4))) (.c (.e (some 39) [] (.call false 121 [(.t 38)])) (.c (.q 40 [] (.lens (.t 39))) (.c (.q 41 [] (.mv (.c (.int .i64 0)))) .nil))))) t106_19) t106_20)
def t106_21 := b106_21
theorem u106_21 : vcK P t106_21 k e w = vcK P b106_21 k e w := rfl
abbrev b106_22 : X := (.seq (.reg [4, 9] (.c (.q 9 [] (.mv (.c (.slice none 0 0)))) .nil)) t106_21)
def t106_22 := b106_22
theorem u106_22 : vcK P t106_22 k e w = vcK P b106_22 k e w := rfl
abbrev b106_23 : X := (.seq (.seq (.reg [3, 4, 17, 18, 19] (.c (.q 17 [] (.mv (.t 3))) (.c (.q 18 [] (.lens (.t 17))) (.c (.q 19 [] (.mv (.c (.int .i64 0)))) .nil)))) t106_12) t106_22)
def t106_23 := b106_23
theorem u106_23 : vcK P t106_23 k e w = vcK P b106_23 k e w := rfl
abbrev b106_24 : X := (.seq (.reg [3, 4] (.c (.q 4 [] (.mv (.c (.slice none 0 0)))) .nil)) t106_23)
def t106_24 := b106_24
theorem u106_24 : vcK P t106_24 k e w = vcK P b106_24 k e w := rfl
abbrev b106_25 : X := (.seq (.drw [3] (.c (.q 12 [] (.lda 3 (.t 1))) (.c (.q 13 [] (.fa 1 (.t 1))) (.c (.q 14 [] (.ld (.t 13))) (.c (.e (some 15) [] (.call false 70 [(.t 14)])) (.c (.e (some 16) [] (.call false 69 [(.t 12), (.t 15)])) (.c (.q 3 [] (.mv (.t 16))) .nil))))))) t106_24)
def t106_25 := b106_25
theorem u106_25 : vcK P t106_25 k e w = vcK P b106_25 k e w := rfl
abbrev b106_0 : X := (.seq (.reg [1] (.c (.e (some 1) [] (.box 25 (.t 0))) (.c (.q 2 [] (.mv (.c (.slice none 0 0)))) .nil))) t106_25)
def x_sl11Heads := b106_0
theorem u106_0 : vcK P x_sl11Heads k e w = vcK P b106_0 k e w := rfl
def r_sl11Heads : List XO := [(.mv (.t 2))]
theorem c_sl11Heads : convF Tryz.prog [56, 58, 59, 60, 61, 62, 72, 73, 77, 97, 98, 109, 110, 111, 112, 115, 128, 136] Tryz.f106 [([1], []), ([3], []), ([3, 4], []), ([3, 4, 17, 18, 19], []), ([4, 19], [3, 17, 18]), ([3, 4, 17, 18, 19, 20], []), ([3, 4, 6, 17, 18, 19], []), ([3, 4, 6, 17, 18, 19, 23, 24, 25], []), ([4, 25], [3, 6, 17, 18, 19, 23, 24]), ([3, 4, 6, 17, 18, 19, 23, 24, 25, 26], []), ([3, 4, 6, 8, 17, 18, 19, 23, 24, 25], []), ([3, 4, 6, 17, 18, 19, 23, 24, 25], []), ([3, 4, 6, 17, 18, 19, 23, 24, 25], []), ([3, 4, 17, 18, 19], []), ([4, 9], []), ([9, 39, 40, 41], []), ([9, 41], [39, 40]), ([9, 39, 40, 41, 42], []), ([9, 11, 39, 40, 41], []), ([9, 11, 39, 40, 41, 57], []), ([9, 39, 40, 41], []), ([9, 39, 40, 41], []), ([2], [])] = some (x_sl11Heads, r_sl11Heads) := by kernel_rfl
def us_sl11Heads :=  (aI (aI (aI (aI @u106_0 (aI @u106_1 @u106_2)) (aI @u106_3 (aI @u106_4 @u106_5))) (aI (aI @u106_6 (aI @u106_7 @u106_8)) (aI (aI @u106_9 @u106_10) (aI @u106_11 @u106_12)))) (aI (aI (aI @u106_13 (aI @u106_14 @u106_15)) (aI @u106_16 (aI @u106_17 @u106_18))) (aI (aI @u106_19 (aI @u106_20 @u106_21)) (aI (aI @u106_22 @u106_23) (aI @u106_24 @u106_25)))))
abbrev b54_1 : X := (.cond (.t 21) .skip (.exit 2))
def t54_1 := b54_1
theorem u54_1 : vcK P t54_1 k e w = vcK P b54_1 k e w := rfl
abbrev b54_2 : X := (.cond (.t 35) (.reg [1, 5, 6, 7, 8, 12, 13] (.c (.q 36 [] (.mv (.t 6))) (.c (.q 37 [] (.mv (.t 7))) (.c (.q 38 [] (.mv (.t 8))) (.c (.e (some 39) [] (.bsl 3 1 [(.t 37), (.t 38)])) (.c (.e (some 40) [] (.bsl 32 1 [(.t 39)])) (.c (.e (some 41) [] (.app 37 32 1 24 [(.slice none 0 0)] 37 (.t 36) (.t 40))) (.c (.q 6 [] (.mv (.t 41))) .nil)))))))) .skip)
def t54_2 := b54_2
theorem u54_2 : vcK P t54_2 k e w = vcK P b54_2 k e w := rfl
abbrev b54_3 : X := (.reg [1, 5, 6, 7, 8, 12, 13] (.c (.q 22 [] (.mv (.t 8))) (.c (.q 23 [] (.bin .add (.t 22) (.c (.int .i64 1)))) (.c (.q 8 [] (.mv (.t 23))) .nil))))
def t54_3 := b54_3
theorem u54_3 : vcK P t54_3 k e w = vcK P b54_3 k e w := rfl
abbrev b54_4 : X := (.seq (.blk 3 (.seq (.drw [1, 5, 6, 7, 8, 12, 13, 35] (.c (.q 24 [] (.mv (.t 5))) (.c (.q 25 [] (.mv (.t 1))) (.c (.q 26 [] (.mv (.t 7))) (.c (.q 27 [] (.ia 1 (.t 25) (.t 26))) (.c (.q 28 [] (.ld (.t 27))) (.c (.q 30 [] (.mv (.t 1))) (.c (.q 31 [] (.mv (.t 8))) (.c (.q 32 [] (.ia 1 (.t 30) (.t 31))) (.c (.q 33 [] (.ld (.t 32))) (.c (.e (some 29) [] (.call false 94 [(.t 28)])) (.c (.e (some 34) [] (.call false 93 [(.t 29), (.t 33)])) (.c (.e (some 35) [] (.call false 107 [(.t 24), (.t 34)])) .nil))))))))))))) t54_2)) t54_3)
def t54_4 := b54_4
theorem u54_4 : vcK P t54_4 k e w = vcK P b54_4 k e w := rfl
abbrev b54_5 : X := (.seq (.seq (.reg [1, 5, 6, 7, 8, 12, 13, 21] (.c (.q 18 [] (.mv (.t 8))) (.c (.q 19 [] (.mv (.t 1))) (.c (.q 20 [] (.lens (.t 19))) (.c (.q 21 [] (.bin .lss (.t 18) (.t 20))) .nil))))) t54_1) t54_4)
def t54_5 := b54_5
theorem u54_5 : vcK P t54_5 k e w = vcK P b54_5 k e w := rfl
abbrev b54_6 : X := (.blk 2 (.loop [6, 8] [1, 5, 7, 12, 13] t54_5))
def t54_6 := b54_6
theorem u54_6 : vcK P t54_6 k e w = vcK P b54_6 k e w := rfl
abbrev b54_7 : X := (.seq (.reg [1, 5, 6, 7, 8, 12, 13] (.c (.q 16 [] (.mv (.t 7))) (.c (.q 17 [] (.bin .add (.t 16) (.c (.int .i64 1)))) (.c (.q 8 [] (.mv (.t 17))) .nil)))) t54_6)
def t54_7 := b54_7
theorem u54_7 : vcK P t54_7 k e w = vcK P b54_7 k e w := rfl
abbrev b54_8 : X := (.reg [1, 5, 6, 12, 13] (.c (.q 42 [] (.bin .add (.t 13) (.c (.int .i64 1)))) (.c (.q 13 [] (.mv (.t 42))) .nil)))
def t54_8 := b54_8
theorem u54_8 : vcK P t54_8 k e w = vcK P b54_8 k e w := rfl
abbrev b54_9 : X := (.seq (.blk 1 (.seq (.reg [1, 5, 6, 7, 12, 13] (.c (.q 15 [] (.mv (.t 13))) (.c (.q 7 [] (.mv (.t 15))) .nil))) t54_7)) t54_8)
def t54_9 := b54_9
theorem u54_9 : vcK P t54_9 k e w = vcK P b54_9 k e w := rfl
abbrev b54_10 : X := (.seq (.cond (.t 14) .skip (.exit 0)) t54_9)
def t54_10 := b54_10
theorem u54_10 : vcK P t54_10 k e w = vcK P b54_10 k e w := rfl
abbrev b54_11 : X := (.seq (.reg [1, 5, 6, 12, 13, 14] (.c (.q 14 [] (.bin .lss (.t 13) (.t 12))) .nil)) t54_10)
def t54_11 := b54_11
theorem u54_11 : vcK P t54_11 k e w = vcK P b54_11 k e w := rfl
abbrev b54_12 : X := (.blk 0 (.loop [6, 13] [1, 5, 12] t54_11))
def t54_12 := b54_12
theorem u54_12 : vcK P t54_12 k e w = vcK P b54_12 k e w := rfl
abbrev b54_13 : X := (.seq (.reg [4] (.c (.q 43 [] (.mv (.t 6))) (.c (.q 4 [] (.mv (.t 43))) .nil))) .ret)
def t54_13 := b54_13
theorem u54_13 : vcK P t54_13 k e w = vcK P b54_13 k e w := rfl
abbrev b54_14 : X := (.seq (.seq (.reg [1, 5, 6, 12, 13] (.c (.q 11 [] (.mv (.t 1))) (.c (.q 12 [] (.lens (.t 11))) (.c (.q 13 [] (.mv (.c (.int .i64 0)))) .nil)))) t54_12) t54_13)
def t54_14 := b54_14
theorem u54_14 : vcK P t54_14 k e w = vcK P b54_14 k e w := rfl
abbrev b54_15 : X := (.seq (.reg [1, 5, 6] (.c (.q 6 [] (.mv (.c (.slice none 0 0)))) .nil)) t54_14)
def t54_15 := b54_15
theorem u54_15 : vcK P t54_15 k e w = vcK P b54_15 k e w := rfl
abbrev b54_16 : X := (.seq (.reg [1, 5] (.c (.q 9 [] (.lda 3 (.t 2))) (.c (.e (some 10) [] (.call false 106 [(.t 9)])) (.c (.q 5 [] (.mv (.t 10))) .nil)))) t54_15)
def t54_16 := b54_16
theorem u54_16 : vcK P t54_16 k e w = vcK P b54_16 k e w := rfl
abbrev b54_0 : X := (.seq (.reg [1, 2] (.c (.e (some 2) [] (.box 25 (.t 0))) (.c (.q 4 [] (.mv (.c (.slice none 0 0)))) .nil))) t54_16)
def x_sl11Clashes := b54_0
theorem u54_0 : vcK P x_sl11Clashes k e w = vcK P b54_0 k e w := rfl
def r_sl11Clashes : List XO := [(.mv (.t 4))]
theorem c_sl11Clashes : convF Tryz.prog [56, 58, 59, 60, 61, 62, 72, 73, 77, 97, 98, 109, 110, 111, 112, 115, 128, 136] Tryz.f54 [([1, 2], []), ([1, 5], []), ([1, 5, 6], []), ([1, 5, 6, 12, 13], []), ([6, 13], [1, 5, 12]), ([1, 5, 6, 12, 13, 14], []), ([1, 5, 6, 7, 12, 13], []), ([1, 5, 6, 7, 8, 12, 13], []), ([6, 8], [1, 5, 7, 12, 13]), ([1, 5, 6, 7, 8, 12, 13, 21], []), ([1, 5, 6, 7, 8, 12, 13, 35], []), ([1, 5, 6, 7, 8, 12, 13], []), ([1, 5, 6, 7, 8, 12, 13], []), ([1, 5, 6, 12, 13], []), ([4], [])] = some (x_sl11Clashes, r_sl11Clashes) := by kernel_rfl
def us_sl11Clashes :=  (aI (aI (aI (aI @u54_0 @u54_1) (aI @u54_2 @u54_3)) (aI (aI @u54_4 @u54_5) (aI @u54_6 @u54_7))) (aI (aI (aI @u54_8 @u54_9) (aI @u54_10 @u54_11)) (aI (aI @u54_12 @u54_13) (aI @u54_14 (aI @u54_15 @u54_16)))))
end
theorem false_snoc {A B : List Bs} {i : Nat} (h : i < A.length) (x : Bs) : x ∈ falseL (A.take (i + 1)) B ↔ x ∈ falseL (A.take i) B ∨ ∃ s ∈ B, x = timesL (A.getD i []) (turnL s) := by
  rw [take_snocB h, falseL_mem, falseL_mem]
  constructor
  · rintro ⟨r, hr, s, hs, e⟩
    rcases List.mem_append.1 hr with hr | hr
    · exact .inl ⟨r, hr, s, hs, e⟩
    · rw [List.mem_singleton.1 hr] at e; exact .inr ⟨s, hs, e⟩
  · rintro (⟨r, hr, s, hs, e⟩ | ⟨s, hs, e⟩)
    · exact ⟨r, List.mem_append.2 (.inl hr), s, hs, e⟩
    · exact ⟨_, List.mem_append.2 (.inr (List.mem_singleton.2 rfl)), s, hs, e⟩
theorem ileadTrue_ok (nm : Bs) (st : Nat) (v : Value) (cs : List Bs) (hm : IsMethod nm st cs) (w : World) (h : Sq fS 1 w v cs) : Fn 86 [mV nm st v] w (fun r _ => r = .bool (decide (leadR st cs).Nodup)) := by
  have h38 : 3 ≤ st ∧ st ≤ 8 := by have := hm.2.1; omega
  have hcl := hm.2.2.1
  have hr0 : IsRow (roundsL st) := roundsL_row st h38
  (refine callsV_of mix Tryz.func86 c_ileadTrue ?_; simp only [↓vsd, vsn, gW, qd, qv, ev, pick, argE, zipE, ne_eq, eq_self, forall_const, implies_true, if_true, if_false, reduceIte, reduceCtorEq, Nat.reduceEqDiff, Nat.reduceAdd, Nat.reduceLT, ↓us_ileadTrue, r_ileadTrue])
  refine m_al ?_
  rintro b1 w1 hb1 hblk1 hx1 hs1
  have h1 : Blk w1 b1 (fM nm st v) 25 := hblk1
  simp only [↓vsd, vsn, gW, qd, qv, ev, pick, argE, zipE, ne_eq, eq_self, forall_const, implies_true, if_true, if_false, reduceIte, reduceCtorEq, Nat.reduceEqDiff, Nat.reduceAdd, Nat.reduceLT, ↓us_ileadTrue, r_ileadTrue, h1.facts, fMg]
  refine m_call (irounds_ok st (by omega) _) ?_
  rintro _ w4 hx4 rfl
  have hx4 : Ext w1 w4 := by first | exact hx4 | exact ud hx4 | exact ud (ud hx4)
  simp only [↓vsd, vsn, gW, qd, qv, ev, pick, argE, zipE, ne_eq, eq_self, forall_const, implies_true, if_true, if_false, reduceIte, reduceCtorEq, Nat.reduceEqDiff, Nat.reduceAdd, Nat.reduceLT, ↓us_ileadTrue, r_ileadTrue]
  refine m_call (ileadRows_ok nm st v cs (roundsL st) hm hr0 _ (by first | exact h.ext (hx1.trans hx4) | exact (h.ext (hx1.trans hx4)).ext (dr (Ext.refl _)))) ?_
  rintro x w5 hx5 ho5
  have hx5 : Ext w4 w5 := by first | exact hx5 | exact ud hx5 | exact ud (ud hx5)
  have hq5 : Sq fS 1 w5 x (leadR st cs) := ho5.sq
  simp only [↓vsd, vsn, gW, qd, qv, ev, pick, argE, zipE, ne_eq, eq_self, forall_const, implies_true, if_true, if_false, reduceIte, reduceCtorEq, Nat.reduceEqDiff, Nat.reduceAdd, Nat.reduceLT, ↓us_ileadTrue, r_ileadTrue]
  refine m_call (iisTrue_ok x (leadR st cs) (by rw [leadR_len]; omega) _ (by first | exact hq5 | exact hq5.ext (dr (Ext.refl _)))) ?_
  rintro _ w6 hx6 rfl
  have hx6 : Ext w5 w6 := by first | exact hx6 | exact ud hx6 | exact ud (ud hx6)
  simp only [↓vsd, vsn, gW, qd, qv, ev, pick, argE, zipE, ne_eq, eq_self, forall_const, implies_true, if_true, if_false, reduceIte, reduceCtorEq, Nat.reduceEqDiff, Nat.reduceAdd, Nat.reduceLT, ↓us_ileadTrue, r_ileadTrue]
  exact ((hx1.trans hx4).trans hx5).trans hx6
def prRow (p : Nat → Nat → Bool) (i m : Nat) : List (List Int) := ((List.range m).filter fun k => decide (i < k) && p i k).map fun k : Nat => [(i : Int), (k : Int)]
def prs (p : Nat → Nat → Bool) (n i : Nat) : List (List Int) := (List.range i).flatMap fun j => prRow p j n
def prAt (p : Nat → Nat → Bool) (n i k : Nat) : List (List Int) := prs p n i ++ prRow p i k
theorem prRow_succ (p : Nat → Nat → Bool) (i m : Nat) : prRow p i (m + 1) = prRow p i m ++ if i < m ∧ p i m = true then [[(i : Int), (m : Int)]] else [] := by
  unfold prRow
  rw [List.range_succ, List.filter_append, List.map_append]
  congr 1
  by_cases h : i < m ∧ p i m = true
  · rw [if_pos h, List.filter_cons_of_pos (by simpa using h)]; rfl
  · rw [if_neg h, List.filter_cons_of_neg (by simpa using h)]; rfl
theorem prs_succ (p : Nat → Nat → Bool) (n i : Nat) : prs p n (i + 1) = prs p n i ++ prRow p i n := by
  unfold prs
  rw [List.range_succ, List.flatMap_append]; simp
theorem prRow_start (p : Nat → Nat → Bool) (i : Nat) : ∀ m, m ≤ i + 1 → prRow p i m = [] := by
  intro m
  induction m with
  | zero => intro _; rfl
  | succ m ih => intro h; rw [prRow_succ, ih (by omega), if_neg (by omega)]; rfl
theorem prAt_first (p : Nat → Nat → Bool) (n i : Nat) : prAt p n i (i + 1) = prs p n i := by rw [prAt, prRow_start p i (i + 1) (Nat.le_refl _), List.append_nil]
theorem prAt_succ (p : Nat → Nat → Bool) (n i k : Nat) : prAt p n i (k + 1) = prAt p n i k ++ if i < k ∧ p i k = true then [[(i : Int), (k : Int)]] else [] := by
  rw [prAt, prRow_succ, prAt, List.append_assoc]
theorem prRow_len (p : Nat → Nat → Bool) (i m : Nat) : (prRow p i m).length ≤ m := by
  unfold prRow
  rw [List.length_map]
  exact Nat.le_trans (List.length_filter_le _ _) (by rw [List.length_range]; exact Nat.le_refl _)
theorem prs_len (p : Nat → Nat → Bool) (n : Nat) : ∀ i, (prs p n i).length ≤ i * n := by
  intro i
  induction i with
  | zero => simp [prs]
  | succ i ih => rw [prs_succ, List.length_append, Nat.succ_mul]; have := prRow_len p i n; omega
theorem prAt_len (p : Nat → Nat → Bool) {n i k : Nat} (hk : k ≤ n) (hi : i ≤ n) : (prAt p n i k).length ≤ n * n + n := by
  rw [prAt, List.length_append]
  have h1 := prs_len p n i
  have h2 := prRow_len p i k
  have h3 : i * n ≤ n * n := Nat.mul_le_mul_right n hi
  omega
/-- Do the heads at i and k clash? -/
def clP (st : Nat) (cs l : List Bs) (i k : Nat) : Bool := decide (timesL (turnL (l.getD i [])) (l.getD k []) ∈ falseL (leadR st cs) (leadR st cs))
def clL (st : Nat) (cs l : List Bs) : List (List Int) := prs (clP st cs l) l.length l.length
theorem snoc_mem {l : List Bs} {k : Nat} (h : k < l.length) {x : Bs} : x ∈ l.take (k + 1) ↔ x ∈ l.take k ∨ x = l.getD k [] := by rw [take_snocB h, List.mem_append, List.mem_singleton]
theorem sl11Heads_ok (nm : Bs) (st : Nat) (v : Value) (cs : List Bs) (hm : IsMethod nm st cs) (w : World) (h : Sq fS 1 w v cs) : Fn 106 [mV nm st v] w (fun r w' => ∃ L, Sq fS 1 w' r L ∧ L.length ≤ 1600 ∧ ∀ x, x ∈ L ↔ x ∈ falseL (leadR st cs) (leadR st cs)) := by
  have h38 : 3 ≤ st ∧ st ≤ 8 := by have := hm.2.1; omega
  have hcl := hm.2.2.1
  have hR := leadR_rows h38 cs
  have hRl := leadR_len st cs
  have hr0 : IsRow (roundsL st) := roundsL_row st h38
  (refine callsV_of mix Tryz.func106 c_sl11Heads ?_; simp only [↓vsd, vsn, gW, qd, qv, ev, pick, argE, zipE, ne_eq, eq_self, forall_const, implies_true, if_true, if_false, reduceIte, reduceCtorEq, Nat.reduceEqDiff, Nat.reduceAdd, Nat.reduceLT, ↓us_sl11Heads, r_sl11Heads])
  refine m_al ?_
  rintro b1 w1 hb1 hblk1 hx1 hs1
  have h1 : Blk w1 b1 (fM nm st v) 25 := hblk1
  simp only [↓vsd, vsn, gW, qd, qv, ev, pick, argE, zipE, ne_eq, eq_self, forall_const, implies_true, if_true, if_false, reduceIte, reduceCtorEq, Nat.reduceEqDiff, Nat.reduceAdd, Nat.reduceLT, ↓us_sl11Heads, r_sl11Heads, h1.facts, fMg]
  refine m_call (sl1Rounds_ok st (by omega) _) ?_
  rintro _ w4 hx4 rfl
  have hx4 : Ext w1 w4 := by first | exact hx4 | exact ud hx4 | exact ud (ud hx4)
  simp only [↓vsd, vsn, gW, qd, qv, ev, pick, argE, zipE, ne_eq, eq_self, forall_const, implies_true, if_true, if_false, reduceIte, reduceCtorEq, Nat.reduceEqDiff, Nat.reduceAdd, Nat.reduceLT, ↓us_sl11Heads, r_sl11Heads]
  refine m_call (sl11Lead_ok nm st v cs (roundsL st) hm hr0 _ (by first | exact h.ext (hx1.trans hx4) | exact (h.ext (hx1.trans hx4)).ext (dr (Ext.refl _)))) ?_
  rintro x w5 hx5 ho5
  have hx5 : Ext w4 w5 := by first | exact hx5 | exact ud hx5 | exact ud (ud hx5)
  have hx05 := (hx1.trans hx4).trans hx5
  have hq5 : Sq fS 1 w5 x (leadR st cs) := ho5.sq
  have hLL : (leadR st cs).length ≤ 40 := by omega
  simp only [↓vsd, vsn, gW, qd, qv, ev, pick, argE, zipE, ne_eq, eq_self, forall_const, implies_true, if_true, if_false, reduceIte, reduceCtorEq, Nat.reduceEqDiff, Nat.reduceAdd, Nat.reduceLT, ↓us_sl11Heads, r_sl11Heads, hq5.facts]
  refine m_upto (leadR st cs).length (fun i vs w' => ∃ y L, vs = [y, .int .i64 i] ∧ Own fS 1 9 w5.heap.size w' y L ∧ L.length = i * (leadR st cs).length ∧ (∀ x, x ∈ L ↔ x ∈ falseL ((leadR st cs).take i) (leadR st cs)) ∧ Ext w5 w') ⟨_, [], rfl, Own.nil fS_len, by simp, fun x => by simp [falseL], Ext.refl _⟩ ?_
  rintro i vs w6 hi ⟨y, L, rfl, ho6, hl6, hL, hx6⟩
  have hq6 := hq5.ext hx6
  by_cases hli : i < (leadR st cs).length
  · have hliI : (i : Int) < (leadR st cs).length := by omega
    have hliJ : ¬ ((leadR st cs).length : Int) ≤ i := by omega
    have a6 := hq6.at1 [] hli
    have hri := hR _ (getD_mem [] hli)
    have hfs := false_snoc (B := leadR st cs) hli
    have hil : i * (leadR st cs).length + (leadR st cs).length ≤ 40 * 40 := by
      rw [← Nat.succ_mul]; exact Nat.mul_le_mul (by omega) hLL
    have hmul : (i + 1) * (leadR st cs).length = i * (leadR st cs).length + (leadR st cs).length := Nat.succ_mul _ _
    generalize i * (leadR st cs).length = M at *
    generalize (leadR st cs).getD i [] = r at *
    simp only [↓vsd, vsn, gW, qd, qv, ev, pick, argE, zipE, ne_eq, eq_self, forall_const, implies_true, if_true, if_false, reduceIte, reduceCtorEq, Nat.reduceEqDiff, Nat.reduceAdd, Nat.reduceLT, ↓us_sl11Heads, r_sl11Heads, hliI, hq6.facts, a6]
    refine ⟨by omega, ?_⟩
    refine m_upto (leadR st cs).length (fun j vs w' => ∃ y L, vs = [y, .int .i64 j] ∧ Own fS 1 9 w5.heap.size w' y L ∧ L.length = M + j ∧ (∀ x, x ∈ L ↔ x ∈ falseL ((leadR st cs).take i) (leadR st cs) ∨ ∃ s ∈ (leadR st cs).take j, x = timesL r (turnL s)) ∧ Ext w5 w') ⟨y, L, rfl, by first | exact ho6 | exact ho6.ext (dr (Ext.refl _)), by omega, fun x => by simp [hL], by first | exact hx6 | exact dr hx6⟩ ?_
    rintro j vs w9 hj ⟨z, L9, rfl, ho9, hl9, hL9, hx9⟩
    have hq9 := hq5.ext hx9
    by_cases hlj : j < (leadR st cs).length
    · have hljI : (j : Int) < (leadR st cs).length := by omega
      have hljJ : ¬ ((leadR st cs).length : Int) ≤ j := by omega
      have a9 := hq9.at1 [] hlj
      have hrj := hR _ (getD_mem [] hlj)
      have htk := take_snocB hlj
      generalize (leadR st cs).getD j [] = s at *
      simp only [↓vsd, vsn, gW, qd, qv, ev, pick, argE, zipE, ne_eq, eq_self, forall_const, implies_true, if_true, if_false, reduceIte, reduceCtorEq, Nat.reduceEqDiff, Nat.reduceAdd, Nat.reduceLT, ↓us_sl11Heads, r_sl11Heads, hljI, hq9.facts, a9]
      refine ⟨by omega, m_call (sl1Turn_ok s hrj.1 _) ?_⟩
      rintro _ w10 hx10 rfl
      have hx10 : Ext w9 w10 := by first | exact hx10 | exact ud hx10 | exact ud (ud hx10)
      simp only [↓vsd, vsn, gW, qd, qv, ev, pick, argE, zipE, ne_eq, eq_self, forall_const, implies_true, if_true, if_false, reduceIte, reduceCtorEq, Nat.reduceEqDiff, Nat.reduceAdd, Nat.reduceLT, ↓us_sl11Heads, r_sl11Heads]
      refine m_call (sl1Times_ok r (turnL s) (turnL_row hrj.1) (by rw [turnL_len, hri.2, hrj.2]) _) ?_
      rintro _ w11 hx11 rfl
      have hx11 : Ext w10 w11 := by first | exact hx11 | exact ud hx11 | exact ud (ud hx11)
      have hx911 := hx10.trans hx11
      simp only [↓vsd, vsn, gW, qd, qv, ev, pick, argE, zipE, ne_eq, eq_self, forall_const, implies_true, if_true, if_false, reduceIte, reduceCtorEq, Nat.reduceEqDiff, Nat.reduceAdd, Nat.reduceLT, ↓us_sl11Heads, r_sl11Heads]
      refine m_bsl (one_el rfl) ?_
      rintro b12 w12 hb12 hblk12 hx12 hs12
      have hx12 : Ext w11 w12 := by first | exact hx12 | exact ud hx12 | exact ud (ud hx12)
      have hx912 := hx911.trans hx12
      simp only [↓vsd, vsn, gW, qd, qv, ev, pick, argE, zipE, ne_eq, eq_self, forall_const, implies_true, if_true, if_false, reduceIte, reduceCtorEq, Nat.reduceEqDiff, Nat.reduceAdd, Nat.reduceLT, ↓us_sl11Heads, r_sl11Heads]
      refine m_app (ho9.ext hx912) (Sq.one fS_len hblk12 rfl) fS_one (by decide) (by rw [List.length_singleton]; omega) (by decide) (hx9.trans hx912).size ?_
      rintro y13 w13 ho13 hg13
      have hx13 := (ho9.ext hx912).grown (hx9.trans hx912) (Nat.le_refl _) hg13
      simp only [↓vsd, vsn, gW, qd, qv, ev, pick, argE, zipE, ne_eq, eq_self, forall_const, implies_true, if_true, if_false, reduceIte, reduceCtorEq, Nat.reduceEqDiff, Nat.reduceAdd, Nat.reduceLT, ↓us_sl11Heads, r_sl11Heads]
      refine ⟨inR_i64 (by omega), UpTo.next hlj ⟨y13, _, rfl, ho13, by rw [List.length_append, List.length_singleton]; omega, fun z => ?_, hx13⟩⟩
      rw [List.mem_append, List.mem_singleton, hL9, htk]
      constructor
      · rintro ((h1 | ⟨q, h1, e⟩) | e)
        · exact .inl h1
        · exact .inr ⟨q, List.mem_append.2 (.inl h1), e⟩
        · exact .inr ⟨s, List.mem_append.2 (.inr (List.mem_singleton.2 rfl)), e⟩
      · rintro (h1 | ⟨q, h1, e⟩)
        · exact .inl (.inl h1)
        · rcases List.mem_append.1 h1 with h1 | h1
          · exact .inl (.inr ⟨q, h1, e⟩)
          · rw [List.mem_singleton.1 h1] at e; exact .inr e
    · obtain rfl : j = (leadR st cs).length := by omega
      have hljI : ¬ (((leadR st cs).length : Nat) : Int) < (leadR st cs).length := by omega
      rw [List.take_length] at hL9
      simp only [↓vsd, vsn, gW, qd, qv, ev, pick, argE, zipE, ne_eq, eq_self, forall_const, implies_true, if_true, if_false, reduceIte, reduceCtorEq, Nat.reduceEqDiff, Nat.reduceAdd, Nat.reduceLT, ↓us_sl11Heads, r_sl11Heads, hljI]
      exact ⟨inR_i64 (by omega), UpTo.next hli ⟨z, L9, rfl, ho9, by omega, fun z => by rw [hL9, hfs], hx9⟩⟩
  · obtain rfl : i = (leadR st cs).length := by omega
    have hliI : ¬ (((leadR st cs).length : Nat) : Int) < (leadR st cs).length := by omega
    rw [List.take_length] at hL
    have hl16 : L.length ≤ 1600 := by rw [hl6]; exact Nat.mul_le_mul hLL hLL
    simp only [↓vsd, vsn, gW, qd, qv, ev, pick, argE, zipE, ne_eq, eq_self, forall_const, implies_true, if_true, if_false, reduceIte, reduceCtorEq, Nat.reduceEqDiff, Nat.reduceAdd, Nat.reduceLT, ↓us_sl11Heads, r_sl11Heads, hliI]
    refine m_call (sl6Sort_ok 1600 L y hl16 (by omega) _ (by first | exact ho6.sq | exact ho6.sq.ext (dr (Ext.refl _)))) ?_
    rintro z w7 hx7 ho7
    have hx7 : Ext w6 w7 := by first | exact hx7 | exact ud hx7 | exact ud (ud hx7)
    have hq7 := ho7.sq
    have hsm : ∀ x, x ∈ srt L ↔ x ∈ falseL (leadR st cs) (leadR st cs) := fun x => by rw [srt_mem, hL]
    have hsl := srt_len L
    generalize srt L = T at *
    have hx57 := hx6.trans hx7
    simp only [↓vsd, vsn, gW, qd, qv, ev, pick, argE, zipE, ne_eq, eq_self, forall_const, implies_true, if_true, if_false, reduceIte, reduceCtorEq, Nat.reduceEqDiff, Nat.reduceAdd, Nat.reduceLT, ↓us_sl11Heads, r_sl11Heads, hq7.facts]
    refine m_upto T.length (fun k vs w' => ∃ y L, vs = [y, .int .i64 k] ∧ Own fS 1 9 w7.heap.size w' y L ∧ L.length ≤ k ∧ (∀ x, x ∈ L ↔ x ∈ T.take k) ∧ Ext w7 w') ⟨_, [], rfl, Own.nil fS_len, Nat.zero_le _, fun x => by simp, Ext.refl _⟩ ?_
    rintro k vs w8 hk ⟨y8, L8, rfl, ho8, hl8, hL8, hx8⟩
    have hq8 := hq7.ext hx8
    by_cases hkl : k < T.length
    · have hkI : (k : Int) < T.length := by omega
      have hkJ : ¬ (T.length : Int) ≤ k := by omega
      have a8 := hq8.at1 [] hkl
      have hsn := fun x => @snoc_mem T k hkl x
      generalize T.getD k [] = f at *
      by_cases h0 : L8.length = 0
      · have h0I : ((L8.length : Nat) : Int) = 0 := by omega
        simp only [↓vsd, vsn, gW, qd, qv, ev, pick, argE, zipE, ne_eq, eq_self, forall_const, implies_true, if_true, if_false, reduceIte, reduceCtorEq, Nat.reduceEqDiff, Nat.reduceAdd, Nat.reduceLT, ↓us_sl11Heads, r_sl11Heads, hkI, hq8.facts, a8, ho8.sq.facts, h0I]
        refine ⟨by omega, m_bsl (one_el rfl) ?_⟩
        rintro b9 w9 hb9 hblk9 hx9 hs9
        have hx9 : Ext w8 w9 := by first | exact hx9 | exact ud hx9 | exact ud (ud hx9)
        simp only [↓vsd, vsn, gW, qd, qv, ev, pick, argE, zipE, ne_eq, eq_self, forall_const, implies_true, if_true, if_false, reduceIte, reduceCtorEq, Nat.reduceEqDiff, Nat.reduceAdd, Nat.reduceLT, ↓us_sl11Heads, r_sl11Heads]
        refine m_app (ho8.ext hx9) (Sq.one fS_len hblk9 rfl) fS_one (by decide) (by rw [List.length_singleton]; omega) (by decide) (hx8.trans hx9).size ?_
        rintro y10 w10 ho10 hg10
        have hx10 := (ho8.ext hx9).grown (hx8.trans hx9) (Nat.le_refl _) hg10
        simp only [↓vsd, vsn, gW, qd, qv, ev, pick, argE, zipE, ne_eq, eq_self, forall_const, implies_true, if_true, if_false, reduceIte, reduceCtorEq, Nat.reduceEqDiff, Nat.reduceAdd, Nat.reduceLT, ↓us_sl11Heads, r_sl11Heads]
        exact ⟨inR_i64 (by omega), UpTo.next hkl ⟨y10, _, rfl, ho10, by rw [List.length_append, List.length_singleton]; omega, fun x => by rw [hsn, List.mem_append, List.mem_singleton, hL8], hx10⟩⟩
      · have h0I : ¬ ((L8.length : Nat) : Int) = 0 := by omega
        have e1 : ((L8.length : Nat) : Int) - 1 = ((L8.length - 1 : Nat) : Int) := by omega
        have l8 := ho8.sq.at1 [] (i := L8.length - 1) (by omega)
        have hlm := getD_mem (l := L8) (k := L8.length - 1) [] (by omega)
        generalize L8.getD (L8.length - 1) [] = g at *
        by_cases hfg : g = f
        · subst hfg
          simp only [↓vsd, vsn, gW, qd, qv, ev, pick, argE, zipE, ne_eq, eq_self, forall_const, implies_true, if_true, if_false, reduceIte, reduceCtorEq, Nat.reduceEqDiff, Nat.reduceAdd, Nat.reduceLT, ↓us_sl11Heads, r_sl11Heads, hkI, hq8.facts, a8, ho8.sq.facts, h0I, e1, l8]
          refine ⟨by omega, inR_i64 (by omega), by omega, inR_i64 (by omega), UpTo.next hkl ⟨y8, L8, rfl, by first | exact ho8 | exact ho8.ext (dr (Ext.refl _)), by omega, fun x => by rw [hsn, ← hL8]; exact ⟨.inl, fun hh => hh.elim id fun e => e ▸ hlm⟩, by first | exact hx8 | exact dr hx8⟩⟩
        · simp only [↓vsd, vsn, gW, qd, qv, ev, pick, argE, zipE, ne_eq, eq_self, forall_const, implies_true, if_true, if_false, reduceIte, reduceCtorEq, Nat.reduceEqDiff, Nat.reduceAdd, Nat.reduceLT, ↓us_sl11Heads, r_sl11Heads, hkI, hq8.facts, a8, ho8.sq.facts, h0I, e1, l8, hfg]
          refine ⟨by omega, inR_i64 (by omega), by omega, m_bsl (one_el rfl) ?_⟩
          rintro b9 w9 hb9 hblk9 hx9 hs9
          have hx9 : Ext w8 w9 := by first | exact hx9 | exact ud hx9 | exact ud (ud hx9)
          simp only [↓vsd, vsn, gW, qd, qv, ev, pick, argE, zipE, ne_eq, eq_self, forall_const, implies_true, if_true, if_false, reduceIte, reduceCtorEq, Nat.reduceEqDiff, Nat.reduceAdd, Nat.reduceLT, ↓us_sl11Heads, r_sl11Heads]
          refine m_app (ho8.ext hx9) (Sq.one fS_len hblk9 rfl) fS_one (by decide) (by rw [List.length_singleton]; omega) (by decide) (hx8.trans hx9).size ?_
          rintro y10 w10 ho10 hg10
          have hx10 := (ho8.ext hx9).grown (hx8.trans hx9) (Nat.le_refl _) hg10
          simp only [↓vsd, vsn, gW, qd, qv, ev, pick, argE, zipE, ne_eq, eq_self, forall_const, implies_true, if_true, if_false, reduceIte, reduceCtorEq, Nat.reduceEqDiff, Nat.reduceAdd, Nat.reduceLT, ↓us_sl11Heads, r_sl11Heads]
          exact ⟨inR_i64 (by omega), UpTo.next hkl ⟨y10, _, rfl, ho10, by rw [List.length_append, List.length_singleton]; omega, fun x => by rw [hsn, List.mem_append, List.mem_singleton, hL8], hx10⟩⟩
    · obtain rfl : k = T.length := by omega
      have hkI : ¬ ((T.length : Nat) : Int) < T.length := by omega
      rw [List.take_length] at hL8
      simp only [↓vsd, vsn, gW, qd, qv, ev, pick, argE, zipE, ne_eq, eq_self, forall_const, implies_true, if_true, if_false, reduceIte, reduceCtorEq, Nat.reduceEqDiff, Nat.reduceAdd, Nat.reduceLT, ↓us_sl11Heads, r_sl11Heads, hkI]
      exact ⟨(hx05.trans hx57).trans hx8, L8, ho8.sq, by omega, fun x => by rw [hL8, hsm]⟩
theorem sl1HasS_okz (v : Value) (l : List Bs) (x : Bs) (hl : l.length ≤ 1000000000) (w : World) (h : Sq fS 1 w v l) : Fn 107 [v, S x] w (fun r _ => r = .bool (decide (x ∈ l))) := by
  (refine callsV_of mix Tryz.func107 c_sl1HasS ?_; simp only [↓vsd, vsn, gW, qd, qv, ev, pick, argE, zipE, ne_eq, eq_self, forall_const, implies_true, if_true, if_false, reduceIte, reduceCtorEq, Nat.reduceEqDiff, Nat.reduceAdd, Nat.reduceLT, ↓us_sl1HasS, r_sl1HasS])
  simp only [↓vsd, vsn, gW, qd, qv, ev, pick, argE, zipE, ne_eq, eq_self, forall_const, implies_true, if_true, if_false, reduceIte, reduceCtorEq, Nat.reduceEqDiff, Nat.reduceAdd, Nat.reduceLT, ↓us_sl1HasS, r_sl1HasS, h.facts]
  refine m_upto l.length (fun i vs w' => vs = [.int .i64 i] ∧ x ∉ l.take i ∧ Ext w w') ⟨rfl, by simp, Ext.refl _⟩ ?_
  rintro i vs w1 hi ⟨rfl, hno, hx1⟩
  have hq1 := h.ext hx1
  by_cases hlt : i < l.length
  · have hltI : (i : Int) < l.length := by omega
    have hltJ : ¬ (l.length : Int) ≤ i := by omega
    have a1 := hq1.at1 [] hlt
    have hsn := take_snocB hlt
    have hm := getD_mem [] hlt
    generalize l.getD i [] = y at *
    simp only [↓vsd, vsn, gW, qd, qv, ev, pick, argE, zipE, ne_eq, eq_self, forall_const, implies_true, if_true, if_false, reduceIte, reduceCtorEq, Nat.reduceEqDiff, Nat.reduceAdd, Nat.reduceLT, ↓us_sl1HasS, r_sl1HasS, hltI, hltJ, hq1.facts, a1]
    refine ⟨by omega, fun he => ⟨hx1, (decide_eq_true (by rw [← he]; exact hm)).symm⟩, fun hne => ⟨inR_i64 (by omega), UpTo.next hlt ⟨rfl, fun hin => ?_, by first | exact hx1 | exact dr hx1⟩⟩⟩
    rw [hsn] at hin
    rcases List.mem_append.1 hin with h1 | h1
    · exact hno h1
    · exact hne (List.mem_singleton.1 h1).symm
  · obtain rfl : i = l.length := by omega
    have hltI : ¬ (l.length : Int) < l.length := by omega
    rw [List.take_length] at hno
    simp only [↓vsd, vsn, gW, qd, qv, ev, pick, argE, zipE, ne_eq, eq_self, forall_const, implies_true, if_true, if_false, reduceIte, reduceCtorEq, Nat.reduceEqDiff, Nat.reduceAdd, Nat.reduceLT, ↓us_sl1HasS, r_sl1HasS, hltI]
    exact ⟨hx1, (decide_eq_false hno).symm⟩
theorem sl11Clashes_ok (nm : Bs) (st : Nat) (v u : Value) (cs l : List Bs) (hm : IsMethod nm st cs) (hr : ∀ r ∈ l, IsRow r ∧ r.length = st) (hl : l.length ≤ 1000) (w : World) (h : Sq fS 1 w v cs) (h' : Sq fS 1 w u l) : Fn 54 [mV nm st v, u] w (fun r w' => NestU fI 3 32 w.heap.size w'.heap.size w' r (clL st cs l)) := by
  have h38 : 3 ≤ st ∧ st ≤ 8 := by have := hm.2.1; omega
  have hnn : l.length * l.length ≤ 1000 * 1000 := Nat.mul_le_mul hl hl
  (refine callsV_of mix Tryz.func54 c_sl11Clashes ?_; simp only [↓vsd, vsn, gW, qd, qv, ev, pick, argE, zipE, ne_eq, eq_self, forall_const, implies_true, if_true, if_false, reduceIte, reduceCtorEq, Nat.reduceEqDiff, Nat.reduceAdd, Nat.reduceLT, ↓us_sl11Clashes, r_sl11Clashes])
  refine m_al ?_
  rintro b1 w1 hb1 hblk1 hx1 hs1
  have h1 : Blk w1 b1 (fM nm st v) 25 := hblk1
  simp only [↓vsd, vsn, gW, qd, qv, ev, pick, argE, zipE, ne_eq, eq_self, forall_const, implies_true, if_true, if_false, reduceIte, reduceCtorEq, Nat.reduceEqDiff, Nat.reduceAdd, Nat.reduceLT, ↓us_sl11Clashes, r_sl11Clashes, h1.facts, fMg]
  refine m_call (sl11Heads_ok nm st v cs hm _ (by first | exact h.ext hx1 | exact (h.ext hx1).ext (dr (Ext.refl _)))) ?_
  rintro _ w2 hx2 ⟨L, hm2, hLl, hL⟩
  have hx2 : Ext w1 w2 := by first | exact hx2 | exact ud hx2 | exact ud (ud hx2)
  have hx02 := hx1.trans hx2
  have hq2 := h'.ext hx02
  simp only [↓vsd, vsn, gW, qd, qv, ev, pick, argE, zipE, ne_eq, eq_self, forall_const, implies_true, if_true, if_false, reduceIte, reduceCtorEq, Nat.reduceEqDiff, Nat.reduceAdd, Nat.reduceLT, ↓us_sl11Clashes, r_sl11Clashes, hq2.facts]
  refine m_upto l.length (fun i vs w' => ∃ x, vs = [x, .int .i64 i] ∧ NestU fI 3 32 w2.heap.size w'.heap.size w' x (prs (clP st cs l) l.length i) ∧ Ext w2 w') ⟨_, rfl, by simp [prs]; exact NestU.nil, Ext.refl _⟩ ?_
  rintro i vs w5 hi ⟨x, rfl, hN5, hx5⟩
  have hq5 := hq2.ext hx5
  by_cases hli : i < l.length
  · have hliI : (i : Int) < l.length := by omega
    have hliJ : ¬ (l.length : Int) ≤ i := by omega
    have a5 := hq5.at1 [] hli
    have hri := hr _ (getD_mem [] hli)
    simp only [↓vsd, vsn, gW, qd, qv, ev, pick, argE, zipE, ne_eq, eq_self, forall_const, implies_true, if_true, if_false, reduceIte, reduceCtorEq, Nat.reduceEqDiff, Nat.reduceAdd, Nat.reduceLT, ↓us_sl11Clashes, r_sl11Clashes, hliI, hliJ, hq5.facts, a5]
    refine ⟨inR_i64 (by omega), ?_⟩
    refine m_upto (l.length - (i + 1)) (fun j vs w' => ∃ x, vs = [x, .int .i64 ((i + 1 + j : Nat) : Int)] ∧ NestU fI 3 32 w2.heap.size w'.heap.size w' x (prAt (clP st cs l) l.length i (i + 1 + j)) ∧ Ext w2 w') ⟨x, rfl, by rw [Nat.add_zero, prAt_first]; exact hN5, by first | exact hx5 | exact dr hx5⟩ ?_
    rintro j vs w6 hj ⟨x6, rfl, hN6, hx6⟩
    have hq6 := hq2.ext hx6
    have hm6 := hm2.ext hx6
    by_cases hlj : i + 1 + j < l.length
    · have hljI : ((i + 1 + j : Nat) : Int) < l.length := by omega
      have hljJ : ¬ (l.length : Int) ≤ ((i + 1 + j : Nat) : Int) := by omega
      have hsu := prAt_succ (clP st cs l) l.length i (i + 1 + j)
      have hpl := prAt_len (clP st cs l) (n := l.length) (i := i) (k := i + 1 + j) (by omega) (by omega)
      have a6 := hq6.at1 [] hli
      have b6 := hq6.at1 [] hlj
      have hrj := hr _ (getD_mem [] hlj)
      have hp : clP st cs l i (i + 1 + j) = decide (timesL (turnL (l.getD i [])) (l.getD (i + 1 + j) []) ∈ falseL (leadR st cs) (leadR st cs)) := rfl
      have ej : ((i + 1 + j : Nat) : Int) + 1 = ((i + 1 + (j + 1) : Nat) : Int) := by omega
      generalize l.getD i [] = g at *
      generalize l.getD (i + 1 + j) [] = f at *
      simp only [↓vsd, vsn, gW, qd, qv, ev, pick, argE, zipE, ne_eq, eq_self, forall_const, implies_true, if_true, if_false, reduceIte, reduceCtorEq, Nat.reduceEqDiff, Nat.reduceAdd, Nat.reduceLT, ↓us_sl11Clashes, r_sl11Clashes, hljI, hq6.facts, a6, b6]
      refine ⟨by omega, by omega, m_call (sl1Turn_ok g hri.1 _) ?_⟩
      rintro _ w10 hx10 rfl
      have hx10 : Ext w6 w10 := by first | exact hx10 | exact ud hx10 | exact ud (ud hx10)
      simp only [↓vsd, vsn, gW, qd, qv, ev, pick, argE, zipE, ne_eq, eq_self, forall_const, implies_true, if_true, if_false, reduceIte, reduceCtorEq, Nat.reduceEqDiff, Nat.reduceAdd, Nat.reduceLT, ↓us_sl11Clashes, r_sl11Clashes]
      refine m_call (sl1Times_ok (turnL g) f hrj.1 (by rw [turnL_len, hri.2, hrj.2]) _) ?_
      rintro _ w11 hx11 rfl
      have hx11 : Ext w10 w11 := by first | exact hx11 | exact ud hx11 | exact ud (ud hx11)
      have hx611 := hx10.trans hx11
      simp only [↓vsd, vsn, gW, qd, qv, ev, pick, argE, zipE, ne_eq, eq_self, forall_const, implies_true, if_true, if_false, reduceIte, reduceCtorEq, Nat.reduceEqDiff, Nat.reduceAdd, Nat.reduceLT, ↓us_sl11Clashes, r_sl11Clashes]
      refine m_call (sl1HasS_okz _ L (timesL (turnL g) f) (by omega) _ (by first | exact hm6.ext hx611 | exact (hm6.ext hx611).ext (dr (Ext.refl _)))) ?_
      rintro _ w12 hx12 rfl
      have hx12 : Ext w11 w12 := by first | exact hx12 | exact ud hx12 | exact ud (ud hx12)
      have hx611 := hx611.trans hx12
      have hLf := hL (timesL (turnL g) f)
      by_cases hin : timesL (turnL g) f ∈ falseL (leadR st cs) (leadR st cs)
      · have hin' := hLf.2 hin
        rw [if_pos ⟨by omega, by rw [hp]; exact decide_eq_true hin⟩] at hsu
        simp only [↓vsd, vsn, gW, qd, qv, ev, pick, argE, zipE, ne_eq, eq_self, forall_const, implies_true, if_true, if_false, reduceIte, reduceCtorEq, Nat.reduceEqDiff, Nat.reduceAdd, Nat.reduceLT, ↓us_sl11Clashes, r_sl11Clashes, hin']
        refine m_bsl (fun p hp => by simp only [List.mem_cons, List.not_mem_nil, or_false] at hp; rcases hp with rfl | rfl <;> rfl) ?_
        rintro b7 w7 hb7 hblk7 hx7 hs7
        have hx7 : Ext w12 w7 := by first | exact hx7 | exact ud hx7 | exact ud (ud hx7)
        have hb7' : b7 = w12.heap.size := hb7
        simp only [↓vsd, vsn, gW, qd, qv, ev, pick, argE, zipE, ne_eq, eq_self, forall_const, implies_true, if_true, if_false, reduceIte, reduceCtorEq, Nat.reduceEqDiff, Nat.reduceAdd, Nat.reduceLT, ↓us_sl11Clashes, r_sl11Clashes]
        refine m_bsl (one_el rfl) ?_
        rintro b8 w8 hb8 hblk8 hx8 hs8
        have hx8 : Ext w7 w8 := by first | exact hx8 | exact ud hx8 | exact ud (ud hx8)
        simp only [↓vsd, vsn, gW, qd, qv, ev, pick, argE, zipE, ne_eq, eq_self, forall_const, implies_true, if_true, if_false, reduceIte, reduceCtorEq, Nat.reduceEqDiff, Nat.reduceAdd, Nat.reduceLT, ↓us_sl11Clashes, r_sl11Clashes]
        have hx68 := (hx611.trans hx7).trans hx8
        have hx1108 := hx7.trans hx8
        have hs611 := hx611.size
        have hin2 : Own fI 1 3 w2.heap.size w8 (SV.v ⟨some ⟨b7, 0, none⟩, 2, 2⟩) [(i : Int), ((i + 1 + j : Nat) : Int)] := by
          refine ⟨fI_len, .inr ⟨b7, 2, _, rfl, by have := hx6.size; omega, hblk7.ext hx8, Nat.le_refl _, by unfold maxLen; omega, rfl, rfl⟩⟩
        refine m_pushU (hN6.ext hx68) (Sq.one (a := SV.mk (some ⟨b7, 0, none⟩) 2 2) fSV_len hblk8 rfl) hin2 (fun c hc => by
          simp only [SV.v, Value.ownBlock, Option.some.injEq] at hc
          omega) hx68.size (by omega) rfl (by decide) (hx6.trans hx68).size ?_
        rintro x9 w9 hN9 hg9
        have hx9 := ext_grow (hx6.trans hx68) hg9 (fun c hc => ((hN6.ext hx68).bound c hc).1)
        simp only [↓vsd, vsn, gW, qd, qv, ev, pick, argE, zipE, ne_eq, eq_self, forall_const, implies_true, if_true, if_false, reduceIte, reduceCtorEq, Nat.reduceEqDiff, Nat.reduceAdd, Nat.reduceLT, ↓us_sl11Clashes, r_sl11Clashes, ej]
        refine ⟨inR_i64 (by omega), UpTo.next (by omega) ⟨x9, rfl, hN9.to ?_, hx9⟩⟩
        rw [show i + 1 + (j + 1) = i + 1 + j + 1 from rfl, hsu]
      · have hin' : ¬ timesL (turnL g) f ∈ L := fun e => hin (hLf.1 e)
        rw [if_neg (fun hh => by rw [hp] at hh; exact hin (of_decide_eq_true hh.2)), List.append_nil] at hsu
        simp only [↓vsd, vsn, gW, qd, qv, ev, pick, argE, zipE, ne_eq, eq_self, forall_const, implies_true, if_true, if_false, reduceIte, reduceCtorEq, Nat.reduceEqDiff, Nat.reduceAdd, Nat.reduceLT, ↓us_sl11Clashes, r_sl11Clashes, hin', ej]
        exact ⟨inR_i64 (by omega), UpTo.next (by omega) ⟨x6, rfl, by rw [show i + 1 + (j + 1) = i + 1 + j + 1 from rfl, hsu]; exact (hN6.ext hx611).mono (Nat.le_refl _) hx611.size, hx6.trans hx611⟩⟩
    · have hljI : ¬ ((i + 1 + j : Nat) : Int) < l.length := by omega
      simp only [↓vsd, vsn, gW, qd, qv, ev, pick, argE, zipE, ne_eq, eq_self, forall_const, implies_true, if_true, if_false, reduceIte, reduceCtorEq, Nat.reduceEqDiff, Nat.reduceAdd, Nat.reduceLT, ↓us_sl11Clashes, r_sl11Clashes, hljI, hq6.facts]
      exact ⟨inR_i64 (by omega), UpTo.next hli ⟨x6, rfl, by rw [prs_succ]; rw [show i + 1 + j = l.length by omega] at hN6; exact hN6, by first | exact hx6 | exact dr hx6⟩⟩
  · obtain rfl : i = l.length := by omega
    have hliI : ¬ (l.length : Int) < l.length := by omega
    simp only [↓vsd, vsn, gW, qd, qv, ev, pick, argE, zipE, ne_eq, eq_self, forall_const, implies_true, if_true, if_false, reduceIte, reduceCtorEq, Nat.reduceEqDiff, Nat.reduceAdd, Nat.reduceLT, ↓us_sl11Clashes, r_sl11Clashes, hliI]
    exact ⟨hx02.trans hx5, hN5.mono hx02.size (Nat.le_refl _)⟩
/-- May the clashes of these heads be asked? -/
def ClOk (nm : Bs) (st : Int) (cs l : List Bs) : Prop := IsMethod nm st cs ∧ (1 ≤ l.length ∧ l.length ≤ 100) ∧ IsRows l ∧ ((l.getD 0 []).length : Int) = st
instance (nm : Bs) (st : Int) (cs l : List Bs) : Decidable (ClOk nm st cs l) := by unfold ClOk IsRows; infer_instance
theorem ClOk.rows {nm : Bs} {st : Nat} {cs l : List Bs} (h : ClOk nm st cs l) : ∀ r ∈ l, IsRow r ∧ r.length = st := fun r hr => ⟨(h.2.2.1.1 r hr).1, by have := (h.2.2.1.1 r hr).2; have := h.2.2.2; omega⟩
end Go.Proofs.YthopbkemkfjebaaGreat
