/-
  Orbits, of both sides; sorting and left multiples.
  Conditions: none.
-/
import Derived.Test.YthopbkemkfjebaaKA10
import Derived.Test.YthopbkemkfjebaaKA71
import Derived.Test.YthopbkemkfjebaaKPw
set_option linter.unusedSimpArgs false
set_option linter.unusedVariables false
set_option linter.defProp false
namespace Go.Proofs.Ythopbkemkfjebaa
open Go Go.RowKit
section
variable (P : Program) (k : KT) (e : Env) (w : World)
abbrev b75_1 : X := (.reg [0, 5, 9, 10, 11] (.c (.q 15 [] (.mv (.t 5))) (.c (.q 16 [] (.mv (.t 0))) (.c (.q 17 [] (.mv (.t 7))) (.c (.e (some 18) [] (.call false 110 [(.t 16), (.t 17)])) (.c (.e (some 19) [] (.bsl 9 1 [(.t 18)])) (.c (.e (some 20) [] (.app 24 9 1 16 [(S [])] 24 (.t 15) (.t 19))) (.c (.q 5 [] (.mv (.t 20))) .nil))))))))
def t75_1 := b75_1
theorem u75_1 : vcK P t75_1 k e w = vcK P b75_1 k e w := rfl
abbrev b75_2 : X := (.reg [0, 5, 9, 10, 11] (.c (.q 21 [] (.bin .add (.t 11) (.c (.int .i64 1)))) (.c (.q 11 [] (.mv (.t 21))) .nil)))
def t75_2 := b75_2
theorem u75_2 : vcK P t75_2 k e w = vcK P b75_2 k e w := rfl
abbrev b75_3 : X := (.seq (.blk 1 (.seq (.reg [0, 5, 7, 9, 10, 11] (.c (.q 13 [] (.ia 1 (.t 9) (.t 11))) (.c (.q 14 [] (.ld (.t 13))) (.c (.q 7 [] (.mv (.t 14))) .nil)))) t75_1)) t75_2)
def t75_3 := b75_3
theorem u75_3 : vcK P t75_3 k e w = vcK P b75_3 k e w := rfl
abbrev b75_4 : X := (.seq (.cond (.t 12) .skip (.exit 0)) t75_3)
def t75_4 := b75_4
theorem u75_4 : vcK P t75_4 k e w = vcK P b75_4 k e w := rfl
abbrev b75_5 : X := (.seq (.reg [0, 5, 9, 10, 11, 12] (.c (.q 12 [] (.bin .lss (.t 11) (.t 10))) .nil)) t75_4)
def t75_5 := b75_5
theorem u75_5 : vcK P t75_5 k e w = vcK P b75_5 k e w := rfl
abbrev b75_6 : X := (.blk 0 (.loop [5, 11] [0, 9, 10] t75_5))
def t75_6 := b75_6
theorem u75_6 : vcK P t75_6 k e w = vcK P b75_6 k e w := rfl
abbrev b75_7 : X := (.seq (.reg [4] (.c (.q 22 [] (.mv (.t 5))) (.c (.q 4 [] (.mv (.t 22))) .nil))) .ret)
def t75_7 := b75_7
theorem u75_7 : vcK P t75_7 k e w = vcK P b75_7 k e w := rfl
abbrev b75_8 : X := (.seq (.seq (.reg [0, 5, 9, 10, 11] (.c (.q 9 [] (.mv (.t 1))) (.c (.q 10 [] (.lens (.t 9))) (.c (.q 11 [] (.mv (.c (.int .i64 0)))) .nil)))) t75_6) t75_7)
def t75_8 := b75_8
theorem u75_8 : vcK P t75_8 k e w = vcK P b75_8 k e w := rfl
abbrev b75_9 : X := (.seq (.reg [0, 1, 5] (.c (.e (some 8) [] (.bsl 9 1 [])) (.c (.q 5 [] (.mv (.t 8))) .nil))) t75_8)
def t75_9 := b75_9
theorem u75_9 : vcK P t75_9 k e w = vcK P b75_9 k e w := rfl
abbrev b75_0 : X := (.seq (.reg [0, 1] (.c (.q 4 [] (.mv (.c (.slice none 0 0)))) .nil)) t75_9)
def x_ileftTimes := b75_0
theorem u75_0 : vcK P x_ileftTimes k e w = vcK P b75_0 k e w := rfl
def r_ileftTimes : List XO := [(.mv (.t 4))]
theorem c_ileftTimes : convF Try.prog [54, 55, 58, 69, 70, 71, 72, 73, 84, 89, 94, 95, 113, 114, 115, 130, 134, 143, 146, 161] Try.f75 [([0, 1], []), ([0, 1, 5], []), ([0, 5, 9, 10, 11], []), ([5, 11], [0, 9, 10]), ([0, 5, 9, 10, 11, 12], []), ([0, 5, 7, 9, 10, 11], []), ([0, 5, 9, 10, 11], []), ([0, 5, 9, 10, 11], []), ([4], [])] = some (x_ileftTimes, r_ileftTimes) := by kernel_rfl
def us_ileftTimes :=  (aI (aI (aI @u75_0 @u75_1) (aI @u75_2 (aI @u75_3 @u75_4))) (aI (aI @u75_5 @u75_6) (aI @u75_7 (aI @u75_8 @u75_9))))
abbrev b57_1 : X := (.seq (.reg [4] (.c (.q 5 [] (.mv (.t 1))) (.c (.e (some 6) [] (.call false 64 [(.t 5)])) (.c (.q 7 [] (.mv (.t 6))) (.c (.q 8 [(7, true)] (.mv (.t 1))) (.c (.q 9 [(7, true)] (.lens (.t 8))) (.c (.q 10 [(7, true)] (.bin .eql (.t 9) (.c (.int .i64 0)))) (.c (.q 11 [(7, true)] (.mv (.t 10))) (.c (.q 12 [(11, false), (7, true)] (.mv (.t 1))) (.c (.q 13 [(11, false), (7, true)] (.ia 1 (.t 12) (.c (.int .i64 0)))) (.c (.q 14 [(11, false), (7, true)] (.ld (.t 13))) (.c (.q 15 [(11, false), (7, true)] (.len (.t 14))) (.c (.q 16 [(11, false), (7, true)] (.mv (.t 0))) (.c (.q 17 [(11, false), (7, true)] (.bin .eql (.t 15) (.t 16))) (.c (.q 18 [(7, true)] (.pick (.t 11) (.c (.bool true)) (.t 17))) (.c (.q 19 [] (.pick (.t 7) (.t 18) (.c (.bool false)))) (.c (.q 4 [] (.mv (.t 19))) .nil))))))))))))))))) .ret)
def t57_1 := b57_1
theorem u57_1 : vcK P t57_1 k e w = vcK P b57_1 k e w := rfl
abbrev b57_0 : X := (.seq (.reg [0, 1] (.c (.q 4 [] (.mv (.c (.bool false)))) .nil)) t57_1)
def x_iareRowsOf := b57_0
theorem u57_0 : vcK P x_iareRowsOf k e w = vcK P b57_0 k e w := rfl
def r_iareRowsOf : List XO := [(.mv (.t 4))]
theorem c_iareRowsOf : convF Try.prog [54, 55, 58, 69, 70, 71, 72, 73, 84, 89, 94, 95, 113, 114, 115, 130, 134, 143, 146, 161] Try.f57 [([0, 1], []), ([4], [])] = some (x_iareRowsOf, r_iareRowsOf) := by kernel_rfl
def us_iareRowsOf :=  (aI @u57_0 @u57_1)
abbrev b77_1 : X := (.reg [0, 5, 8, 9, 10] (.c (.q 14 [] (.mv (.t 5))) (.c (.q 15 [] (.mv (.t 0))) (.c (.q 16 [] (.mv (.t 7))) (.c (.e (some 17) [] (.call false 102 [(.t 15), (.t 16)])) (.c (.e (some 18) [] (.bsl 9 1 [(.t 17)])) (.c (.e (some 19) [] (.app 24 9 1 16 [(S [])] 24 (.t 14) (.t 18))) (.c (.q 5 [] (.mv (.t 19))) .nil))))))))
def t77_1 := b77_1
theorem u77_1 : vcK P t77_1 k e w = vcK P b77_1 k e w := rfl
abbrev b77_2 : X := (.reg [0, 5, 8, 9, 10] (.c (.q 20 [] (.bin .add (.t 10) (.c (.int .i64 1)))) (.c (.q 10 [] (.mv (.t 20))) .nil)))
def t77_2 := b77_2
theorem u77_2 : vcK P t77_2 k e w = vcK P b77_2 k e w := rfl
abbrev b77_3 : X := (.seq (.blk 1 (.seq (.reg [0, 5, 7, 8, 9, 10] (.c (.q 12 [] (.ia 1 (.t 8) (.t 10))) (.c (.q 13 [] (.ld (.t 12))) (.c (.q 7 [] (.mv (.t 13))) .nil)))) t77_1)) t77_2)
def t77_3 := b77_3
theorem u77_3 : vcK P t77_3 k e w = vcK P b77_3 k e w := rfl
abbrev b77_4 : X := (.seq (.cond (.t 11) .skip (.exit 0)) t77_3)
def t77_4 := b77_4
theorem u77_4 : vcK P t77_4 k e w = vcK P b77_4 k e w := rfl
abbrev b77_5 : X := (.seq (.reg [0, 5, 8, 9, 10, 11] (.c (.q 11 [] (.bin .lss (.t 10) (.t 9))) .nil)) t77_4)
def t77_5 := b77_5
theorem u77_5 : vcK P t77_5 k e w = vcK P b77_5 k e w := rfl
abbrev b77_6 : X := (.blk 0 (.loop [5, 10] [0, 8, 9] t77_5))
def t77_6 := b77_6
theorem u77_6 : vcK P t77_6 k e w = vcK P b77_6 k e w := rfl
abbrev b77_7 : X := (.seq (.reg [4] (.c (.q 21 [] (.mv (.t 5))) (.c (.q 4 [] (.mv (.t 21))) .nil))) .ret)
def t77_7 := b77_7
theorem u77_7 : vcK P t77_7 k e w = vcK P b77_7 k e w := rfl
abbrev b77_8 : X := (.seq (.seq (.reg [0, 5, 8, 9, 10] (.c (.q 8 [] (.mv (.t 1))) (.c (.q 9 [] (.lens (.t 8))) (.c (.q 10 [] (.mv (.c (.int .i64 0)))) .nil)))) t77_6) t77_7)
def t77_8 := b77_8
theorem u77_8 : vcK P t77_8 k e w = vcK P b77_8 k e w := rfl
abbrev b77_9 : X := (.seq (.reg [0, 1, 5] (.c (.q 5 [] (.mv (.c (.slice none 0 0)))) .nil)) t77_8)
def t77_9 := b77_9
theorem u77_9 : vcK P t77_9 k e w = vcK P b77_9 k e w := rfl
abbrev b77_0 : X := (.seq (.reg [0, 1] (.c (.q 4 [] (.mv (.c (.slice none 0 0)))) .nil)) t77_9)
def x_sl6Left := b77_0
theorem u77_0 : vcK P x_sl6Left k e w = vcK P b77_0 k e w := rfl
def r_sl6Left : List XO := [(.mv (.t 4))]
theorem c_sl6Left : convF Try.prog [54, 55, 58, 69, 70, 71, 72, 73, 84, 89, 94, 95, 113, 114, 115, 130, 134, 143, 146, 161] Try.f77 [([0, 1], []), ([0, 1, 5], []), ([0, 5, 8, 9, 10], []), ([5, 10], [0, 8, 9]), ([0, 5, 8, 9, 10, 11], []), ([0, 5, 7, 8, 9, 10], []), ([0, 5, 8, 9, 10], []), ([0, 5, 8, 9, 10], []), ([4], [])] = some (x_sl6Left, r_sl6Left) := by kernel_rfl
def us_sl6Left :=  (aI (aI (aI @u77_0 @u77_1) (aI @u77_2 (aI @u77_3 @u77_4))) (aI (aI @u77_5 @u77_6) (aI @u77_7 (aI @u77_8 @u77_9))))
abbrev b61_1 : X := (.cond (.t 7) (.seq (.reg [4] (.c (.q 8 [] (.mv (.t 0))) (.c (.q 4 [] (.mv (.t 8))) .nil))) .ret) .skip)
def t61_1 := b61_1
theorem u61_1 : vcK P t61_1 k e w = vcK P b61_1 k e w := rfl
abbrev b61_2 : X := (.seq (.reg [4] (.c (.q 9 [] (.mv (.t 1))) (.c (.q 4 [] (.mv (.t 9))) .nil))) .ret)
def t61_2 := b61_2
theorem u61_2 : vcK P t61_2 k e w = vcK P b61_2 k e w := rfl
abbrev b61_3 : X := (.seq (.seq (.reg [0, 1, 7] (.c (.q 5 [] (.mv (.t 0))) (.c (.q 6 [] (.mv (.t 1))) (.c (.q 7 [] (.bin .lss (.t 5) (.t 6))) .nil)))) t61_1) t61_2)
def t61_3 := b61_3
theorem u61_3 : vcK P t61_3 k e w = vcK P b61_3 k e w := rfl
abbrev b61_0 : X := (.seq (.reg [0, 1] (.c (.q 4 [] (.mv (.c (.int .i64 0)))) .nil)) t61_3)
def x_sl1Least := b61_0
theorem u61_0 : vcK P x_sl1Least k e w = vcK P b61_0 k e w := rfl
def r_sl1Least : List XO := [(.mv (.t 4))]
theorem c_sl1Least : convF Try.prog [54, 55, 58, 69, 70, 71, 72, 73, 84, 89, 94, 95, 113, 114, 115, 130, 134, 143, 146, 161] Try.f61 [([0, 1], []), ([0, 1, 7], []), ([4], []), ([4], [])] = some (x_sl1Least, r_sl1Least) := by kernel_rfl
def us_sl1Least :=  (aI (aI @u61_0 @u61_1) (aI @u61_2 @u61_3))
abbrev b11_1 : X := (.cond (.t 37) (.seq (.reg [4, 5] (.c (.q 4 [] (.mv (.c (.slice none 0 0)))) (.c (.q 5 [] (.mv (.c (.bool false)))) .nil))) .ret) .skip)
def t11_1 := b11_1
theorem u11_1 : vcK P t11_1 k e w = vcK P b11_1 k e w := rfl
abbrev b11_2 : X := (.reg [0, 1, 6, 42, 43] (.c (.q 46 [] (.mv (.t 6))) (.c (.q 47 [] (.mv (.t 7))) (.c (.q 48 [] (.mv (.t 7))) (.c (.q 49 [] (.ia 1 (.t 46) (.t 47))) (.c (.e none [] (.st 1 (.t 49) (.t 48))) .nil))))))
def t11_2 := b11_2
theorem u11_2 : vcK P t11_2 k e w = vcK P b11_2 k e w := rfl
abbrev b11_3 : X := (.reg [0, 1, 6, 42, 43] (.c (.q 50 [] (.bin .add (.t 43) (.c (.int .i64 1)))) (.c (.q 43 [] (.mv (.t 50))) .nil)))
def t11_3 := b11_3
theorem u11_3 : vcK P t11_3 k e w = vcK P b11_3 k e w := rfl
abbrev b11_4 : X := (.seq (.blk 1 (.seq (.reg [0, 1, 6, 7, 42, 43] (.c (.q 45 [] (.mv (.t 43))) (.c (.q 7 [] (.mv (.t 45))) .nil))) t11_2)) t11_3)
def t11_4 := b11_4
theorem u11_4 : vcK P t11_4 k e w = vcK P b11_4 k e w := rfl
abbrev b11_5 : X := (.seq (.cond (.t 44) .skip (.exit 0)) t11_4)
def t11_5 := b11_5
theorem u11_5 : vcK P t11_5 k e w = vcK P b11_5 k e w := rfl
abbrev b11_6 : X := (.seq (.reg [0, 1, 6, 42, 43, 44] (.c (.q 44 [] (.bin .lss (.t 43) (.t 42))) .nil)) t11_5)
def t11_6 := b11_6
theorem u11_6 : vcK P t11_6 k e w = vcK P b11_6 k e w := rfl
abbrev b11_7 : X := (.blk 0 (.loop [43] [0, 1, 6, 42] t11_6))
def t11_7 := b11_7
theorem u11_7 : vcK P t11_7 k e w = vcK P b11_7 k e w := rfl
abbrev b11_8 : X := (.cond (.t 53) .skip (.exit 2))
def t11_8 := b11_8
theorem u11_8 : vcK P t11_8 k e w = vcK P b11_8 k e w := rfl
abbrev b11_9 : X := (.cond (.t 64) .skip (.exit 6))
def t11_9 := b11_9
theorem u11_9 : vcK P t11_9 k e w = vcK P b11_9 k e w := rfl
abbrev b11_10 : X := (.reg [0, 1, 6, 8, 10, 11, 56, 57, 58] (.c (.q 82 [] (.mv (.t 6))) (.c (.q 83 [] (.mv (.t 10))) (.c (.q 84 [] (.mv (.t 11))) (.c (.e (some 85) [] (.call false 62 [(.t 83), (.t 84)])) (.c (.q 86 [] (.mv (.t 12))) (.c (.q 87 [] (.ia 1 (.t 82) (.t 85))) (.c (.e none [] (.st 1 (.t 87) (.t 86))) .nil))))))))
def t11_10 := b11_10
theorem u11_10 : vcK P t11_10 k e w = vcK P b11_10 k e w := rfl
abbrev b11_11 : X := (.seq (.reg [0, 1, 6, 8, 10, 11, 12, 56, 57, 58] (.c (.q 78 [] (.mv (.t 6))) (.c (.q 79 [] (.mv (.t 11))) (.c (.q 80 [] (.mv (.t 12))) (.c (.q 81 [] (.ia 1 (.t 78) (.t 79))) (.c (.e none [] (.st 1 (.t 81) (.t 80))) .nil)))))) t11_10)
def t11_11 := b11_11
theorem u11_11 : vcK P t11_11 k e w = vcK P b11_11 k e w := rfl
abbrev b11_12 : X := (.reg [0, 1, 6, 8, 10, 11, 56, 57, 58] (.c (.q 65 [] (.mv (.t 11))) (.c (.q 66 [] (.bin .add (.t 65) (.c (.int .i64 1)))) (.c (.q 11 [] (.mv (.t 66))) .nil))))
def t11_12 := b11_12
theorem u11_12 : vcK P t11_12 k e w = vcK P b11_12 k e w := rfl
abbrev b11_13 : X := (.seq (.blk 7 (.seq (.drw [0, 1, 6, 8, 10, 11, 12, 56, 57, 58] (.c (.q 67 [] (.mv (.t 6))) (.c (.q 68 [] (.mv (.t 11))) (.c (.q 69 [] (.ia 1 (.t 67) (.t 68))) (.c (.q 70 [] (.ld (.t 69))) (.c (.q 71 [] (.mv (.t 6))) (.c (.q 72 [] (.mv (.t 10))) (.c (.q 73 [] (.mv (.t 11))) (.c (.e (some 74) [] (.call false 62 [(.t 72), (.t 73)])) (.c (.q 75 [] (.ia 1 (.t 71) (.t 74))) (.c (.q 76 [] (.ld (.t 75))) (.c (.e (some 77) [] (.call false 61 [(.t 70), (.t 76)])) (.c (.q 12 [] (.mv (.t 77))) .nil))))))))))))) t11_11)) t11_12)
def t11_13 := b11_13
theorem u11_13 : vcK P t11_13 k e w = vcK P b11_13 k e w := rfl
abbrev b11_14 : X := (.seq (.seq (.reg [0, 1, 6, 8, 10, 11, 56, 57, 58, 64] (.c (.q 62 [] (.mv (.t 11))) (.c (.q 63 [] (.mv (.t 1))) (.c (.q 64 [] (.bin .leq (.t 62) (.t 63))) .nil)))) t11_9) t11_13)
def t11_14 := b11_14
theorem u11_14 : vcK P t11_14 k e w = vcK P b11_14 k e w := rfl
abbrev b11_15 : X := (.blk 6 (.loop [11] [0, 1, 6, 8, 10, 56, 57, 58] t11_14))
def t11_15 := b11_15
theorem u11_15 : vcK P t11_15 k e w = vcK P b11_15 k e w := rfl
abbrev b11_16 : X := (.seq (.reg [0, 1, 6, 8, 10, 11, 56, 57, 58] (.c (.q 11 [] (.mv (.c (.int .i64 1)))) .nil)) t11_15)
def t11_16 := b11_16
theorem u11_16 : vcK P t11_16 k e w = vcK P b11_16 k e w := rfl
abbrev b11_17 : X := (.reg [0, 1, 6, 8, 56, 57, 58] (.c (.q 88 [] (.bin .add (.t 58) (.c (.int .i64 1)))) (.c (.q 58 [] (.mv (.t 88))) .nil)))
def t11_17 := b11_17
theorem u11_17 : vcK P t11_17 k e w = vcK P b11_17 k e w := rfl
abbrev b11_18 : X := (.seq (.blk 5 (.seq (.reg [0, 1, 6, 8, 10, 56, 57, 58] (.c (.q 60 [] (.ia 1 (.t 56) (.t 58))) (.c (.q 61 [] (.ld (.t 60))) (.c (.q 10 [] (.mv (.t 61))) .nil)))) t11_16)) t11_17)
def t11_18 := b11_18
theorem u11_18 : vcK P t11_18 k e w = vcK P b11_18 k e w := rfl
abbrev b11_19 : X := (.seq (.cond (.t 59) .skip (.exit 4)) t11_18)
def t11_19 := b11_19
theorem u11_19 : vcK P t11_19 k e w = vcK P b11_19 k e w := rfl
abbrev b11_20 : X := (.seq (.reg [0, 1, 6, 8, 56, 57, 58, 59] (.c (.q 59 [] (.bin .lss (.t 58) (.t 57))) .nil)) t11_19)
def t11_20 := b11_20
theorem u11_20 : vcK P t11_20 k e w = vcK P b11_20 k e w := rfl
abbrev b11_21 : X := (.blk 4 (.loop [58] [0, 1, 6, 8, 56, 57] t11_20))
def t11_21 := b11_21
theorem u11_21 : vcK P t11_21 k e w = vcK P b11_21 k e w := rfl
abbrev b11_22 : X := (.reg [0, 1, 6, 8] (.c (.q 54 [] (.mv (.t 8))) (.c (.q 55 [] (.bin .add (.t 54) (.c (.int .i64 1)))) (.c (.q 8 [] (.mv (.t 55))) .nil))))
def t11_22 := b11_22
theorem u11_22 : vcK P t11_22 k e w = vcK P b11_22 k e w := rfl
abbrev b11_23 : X := (.seq (.blk 3 (.seq (.reg [0, 1, 6, 8, 56, 57, 58] (.c (.q 56 [] (.mv (.t 0))) (.c (.q 57 [] (.lens (.t 56))) (.c (.q 58 [] (.mv (.c (.int .i64 0)))) .nil)))) t11_21)) t11_22)
def t11_23 := b11_23
theorem u11_23 : vcK P t11_23 k e w = vcK P b11_23 k e w := rfl
abbrev b11_24 : X := (.seq (.seq (.reg [0, 1, 6, 8, 53] (.c (.q 51 [] (.mv (.t 8))) (.c (.q 52 [] (.mv (.t 1))) (.c (.q 53 [] (.bin .lss (.t 51) (.t 52))) .nil)))) t11_8) t11_23)
def t11_24 := b11_24
theorem u11_24 : vcK P t11_24 k e w = vcK P b11_24 k e w := rfl
abbrev b11_25 : X := (.blk 2 (.loop [8] [0, 1, 6] t11_24))
def t11_25 := b11_25
theorem u11_25 : vcK P t11_25 k e w = vcK P b11_25 k e w := rfl
abbrev b11_26 : X := (.cond (.t 91) .skip (.exit 8))
def t11_26 := b11_26
theorem u11_26 : vcK P t11_26 k e w = vcK P b11_26 k e w := rfl
abbrev b11_27 : X := (.cond (.t 96) .skip (.exit 10))
def t11_27 := b11_27
theorem u11_27 : vcK P t11_27 k e w = vcK P b11_27 k e w := rfl
abbrev b11_28 : X := (.cond (.t 104) (.reg [1, 6, 13, 14, 15, 16] (.c (.q 105 [] (.mv (.t 15))) (.c (.q 106 [] (.mv (.t 16))) (.c (.e (some 107) [] (.bsl 3 1 [(.t 106)])) (.c (.e (some 108) [] (.app 31 3 1 8 [(.int .i64 0)] 31 (.t 105) (.t 107))) (.c (.q 15 [] (.mv (.t 108))) .nil)))))) .skip)
def t11_28 := b11_28
theorem u11_28 : vcK P t11_28 k e w = vcK P b11_28 k e w := rfl
abbrev b11_29 : X := (.reg [1, 6, 13, 14, 15, 16] (.c (.q 97 [] (.mv (.t 16))) (.c (.q 98 [] (.bin .add (.t 97) (.c (.int .i64 1)))) (.c (.q 16 [] (.mv (.t 98))) .nil))))
def t11_29 := b11_29
theorem u11_29 : vcK P t11_29 k e w = vcK P b11_29 k e w := rfl
abbrev b11_30 : X := (.seq (.blk 11 (.seq (.reg [1, 6, 13, 14, 15, 16, 104] (.c (.q 99 [] (.mv (.t 6))) (.c (.q 100 [] (.mv (.t 16))) (.c (.q 101 [] (.ia 1 (.t 99) (.t 100))) (.c (.q 102 [] (.ld (.t 101))) (.c (.q 103 [] (.mv (.t 14))) (.c (.q 104 [] (.bin .eql (.t 102) (.t 103))) .nil))))))) t11_28)) t11_29)
def t11_30 := b11_30
theorem u11_30 : vcK P t11_30 k e w = vcK P b11_30 k e w := rfl
abbrev b11_31 : X := (.seq (.seq (.reg [1, 6, 13, 14, 15, 16, 96] (.c (.q 94 [] (.mv (.t 16))) (.c (.q 95 [] (.mv (.t 1))) (.c (.q 96 [] (.bin .leq (.t 94) (.t 95))) .nil)))) t11_27) t11_30)
def t11_31 := b11_31
theorem u11_31 : vcK P t11_31 k e w = vcK P b11_31 k e w := rfl
abbrev b11_32 : X := (.blk 10 (.loop [15, 16] [1, 6, 13, 14] t11_31))
def t11_32 := b11_32
theorem u11_32 : vcK P t11_32 k e w = vcK P b11_32 k e w := rfl
abbrev b11_33 : X := (.cond (.t 111) (.reg [1, 6, 13, 14] (.c (.q 112 [] (.mv (.t 13))) (.c (.q 113 [] (.mv (.t 15))) (.c (.e (some 114) [] (.bsl 31 1 [(.t 113)])) (.c (.e (some 115) [] (.app 27 31 1 24 [(.slice none 0 0)] 27 (.t 112) (.t 114))) (.c (.q 13 [] (.mv (.t 115))) .nil)))))) .skip)
def t11_33 := b11_33
theorem u11_33 : vcK P t11_33 k e w = vcK P b11_33 k e w := rfl
abbrev b11_34 : X := (.seq (.reg [1, 6, 13, 14, 15, 111] (.c (.q 109 [] (.mv (.t 15))) (.c (.q 110 [] (.lens (.t 109))) (.c (.q 111 [] (.bin .gtr (.t 110) (.c (.int .i64 0)))) .nil)))) t11_33)
def t11_34 := b11_34
theorem u11_34 : vcK P t11_34 k e w = vcK P b11_34 k e w := rfl
abbrev b11_35 : X := (.seq (.seq (.reg [1, 6, 13, 14, 15, 16] (.c (.q 16 [] (.mv (.c (.int .i64 1)))) .nil)) t11_32) t11_34)
def t11_35 := b11_35
theorem u11_35 : vcK P t11_35 k e w = vcK P b11_35 k e w := rfl
abbrev b11_36 : X := (.reg [1, 6, 13, 14] (.c (.q 92 [] (.mv (.t 14))) (.c (.q 93 [] (.bin .add (.t 92) (.c (.int .i64 1)))) (.c (.q 14 [] (.mv (.t 93))) .nil))))
def t11_36 := b11_36
theorem u11_36 : vcK P t11_36 k e w = vcK P b11_36 k e w := rfl
abbrev b11_37 : X := (.seq (.blk 9 (.seq (.reg [1, 6, 13, 14, 15] (.c (.q 15 [] (.mv (.c (.slice none 0 0)))) .nil)) t11_35)) t11_36)
def t11_37 := b11_37
theorem u11_37 : vcK P t11_37 k e w = vcK P b11_37 k e w := rfl
abbrev b11_38 : X := (.seq (.seq (.reg [1, 6, 13, 14, 91] (.c (.q 89 [] (.mv (.t 14))) (.c (.q 90 [] (.mv (.t 1))) (.c (.q 91 [] (.bin .leq (.t 89) (.t 90))) .nil)))) t11_26) t11_37)
def t11_38 := b11_38
theorem u11_38 : vcK P t11_38 k e w = vcK P b11_38 k e w := rfl
abbrev b11_39 : X := (.blk 8 (.loop [13, 14] [1, 6] t11_38))
def t11_39 := b11_39
theorem u11_39 : vcK P t11_39 k e w = vcK P b11_39 k e w := rfl
abbrev b11_40 : X := (.seq (.reg [4, 5] (.c (.q 116 [] (.mv (.t 13))) (.c (.q 4 [] (.mv (.t 116))) (.c (.q 5 [] (.mv (.c (.bool true)))) .nil)))) .ret)
def t11_40 := b11_40
theorem u11_40 : vcK P t11_40 k e w = vcK P b11_40 k e w := rfl
abbrev b11_41 : X := (.seq (.seq (.reg [1, 6, 13, 14] (.c (.q 14 [] (.mv (.c (.int .i64 1)))) .nil)) t11_39) t11_40)
def t11_41 := b11_41
theorem u11_41 : vcK P t11_41 k e w = vcK P b11_41 k e w := rfl
abbrev b11_42 : X := (.seq (.reg [1, 6, 13] (.c (.q 13 [] (.mv (.c (.slice none 0 0)))) .nil)) t11_41)
def t11_42 := b11_42
theorem u11_42 : vcK P t11_42 k e w = vcK P b11_42 k e w := rfl
abbrev b11_43 : X := (.seq (.seq (.reg [0, 1, 6, 8] (.c (.q 8 [] (.mv (.c (.int .i64 0)))) .nil)) t11_25) t11_42)
def t11_43 := b11_43
theorem u11_43 : vcK P t11_43 k e w = vcK P b11_43 k e w := rfl
abbrev b11_44 : X := (.seq (.seq (.reg [0, 1, 6, 42, 43] (.c (.q 41 [] (.mv (.t 6))) (.c (.q 42 [] (.lens (.t 41))) (.c (.q 43 [] (.mv (.c (.int .i64 0)))) .nil)))) t11_7) t11_43)
def t11_44 := b11_44
theorem u11_44 : vcK P t11_44 k e w = vcK P b11_44 k e w := rfl
abbrev b11_45 : X := (.seq (.reg [0, 1, 6] (.c (.q 38 [] (.mv (.t 1))) (.c (.q 39 [] (.bin .add (.t 38) (.c (.int .i64 1)))) (.c (.e (some 40) [] (.msl 31 3 1 8 [(.int .i64 0)] (.t 39) (.t 39))) (.c (.q 6 [] (.mv (.t 40))) .nil))))) t11_44)
def t11_45 := b11_45
theorem u11_45 : vcK P t11_45 k e w = vcK P b11_45 k e w := rfl
abbrev b11_46 : X := (.seq (.seq (.reg [0, 1, 37] (.c (.q 17 [] (.mv (.t 1))) (.c (.e (some 18) [] (.call false 59 [(.t 17), (.c (.int .i64 3)), (.c (.int .i64 8))])) (.c (.q 19 [] (.not (.t 18))) (.c (.q 20 [] (.mv (.t 19))) (.c (.q 21 [(20, false)] (.mv (.t 0))) (.c (.e (some 22) [(20, false)] (.call false 60 [(.t 21)])) (.c (.q 23 [(20, false)] (.not (.t 22))) (.c (.q 24 [] (.pick (.t 20) (.c (.bool true)) (.t 23))) (.c (.q 25 [] (.mv (.t 24))) (.c (.q 26 [(25, false)] (.mv (.t 0))) (.c (.q 27 [(25, false)] (.lens (.t 26))) (.c (.q 28 [(25, false)] (.bin .gtr (.t 27) (.c (.int .i64 0)))) (.c (.q 29 [(25, false)] (.mv (.t 28))) (.c (.q 30 [(29, true), (25, false)] (.mv (.t 0))) (.c (.q 31 [(29, true), (25, false)] (.ia 1 (.t 30) (.c (.int .i64 0)))) (.c (.q 32 [(29, true), (25, false)] (.ld (.t 31))) (.c (.q 33 [(29, true), (25, false)] (.len (.t 32))) (.c (.q 34 [(29, true), (25, false)] (.mv (.t 1))) (.c (.q 35 [(29, true), (25, false)] (.bin .neq (.t 33) (.t 34))) (.c (.q 36 [(25, false)] (.pick (.t 29) (.t 35) (.c (.bool false)))) (.c (.q 37 [] (.pick (.t 25) (.c (.bool true)) (.t 36))) .nil)))))))))))))))))))))) t11_1) t11_45)
def t11_46 := b11_46
theorem u11_46 : vcK P t11_46 k e w = vcK P b11_46 k e w := rfl
abbrev b11_0 : X := (.seq (.reg [0, 1] (.c (.q 4 [] (.mv (.c (.slice none 0 0)))) (.c (.q 5 [] (.mv (.c (.bool false)))) .nil))) t11_46)
def x_sOrbitsOf := b11_0
theorem u11_0 : vcK P x_sOrbitsOf k e w = vcK P b11_0 k e w := rfl
def r_sOrbitsOf : List XO := [(.mv (.t 4)), (.mv (.t 5))]
theorem c_sOrbitsOf : convF Try.prog [54, 55, 58, 69, 70, 71, 72, 73, 84, 89, 94, 95, 113, 114, 115, 130, 134, 143, 146, 161] Try.f11 [([0, 1], []), ([0, 1, 37], []), ([4, 5], []), ([0, 1, 6], []), ([0, 1, 6, 42, 43], []), ([43], [0, 1, 6, 42]), ([0, 1, 6, 42, 43, 44], []), ([0, 1, 6, 7, 42, 43], []), ([0, 1, 6, 42, 43], []), ([0, 1, 6, 42, 43], []), ([0, 1, 6, 8], []), ([8], [0, 1, 6]), ([0, 1, 6, 8, 53], []), ([0, 1, 6, 8, 56, 57, 58], []), ([58], [0, 1, 6, 8, 56, 57]), ([0, 1, 6, 8, 56, 57, 58, 59], []), ([0, 1, 6, 8, 10, 56, 57, 58], []), ([0, 1, 6, 8, 10, 11, 56, 57, 58], []), ([11], [0, 1, 6, 8, 10, 56, 57, 58]), ([0, 1, 6, 8, 10, 11, 56, 57, 58, 64], []), ([0, 1, 6, 8, 10, 11, 12, 56, 57, 58], []), ([0, 1, 6, 8, 10, 11, 12, 56, 57, 58], []), ([0, 1, 6, 8, 10, 11, 56, 57, 58], []), ([0, 1, 6, 8, 10, 11, 56, 57, 58], []), ([0, 1, 6, 8, 56, 57, 58], []), ([0, 1, 6, 8], []), ([1, 6, 13], []), ([1, 6, 13, 14], []), ([13, 14], [1, 6]), ([1, 6, 13, 14, 91], []), ([1, 6, 13, 14, 15], []), ([1, 6, 13, 14, 15, 16], []), ([15, 16], [1, 6, 13, 14]), ([1, 6, 13, 14, 15, 16, 96], []), ([1, 6, 13, 14, 15, 16, 104], []), ([1, 6, 13, 14, 15, 16], []), ([1, 6, 13, 14, 15, 16], []), ([1, 6, 13, 14, 15, 111], []), ([1, 6, 13, 14], []), ([1, 6, 13, 14], []), ([4, 5], [])] = some (x_sOrbitsOf, r_sOrbitsOf) := by kernel_rfl
def us_sOrbitsOf :=  (aI (aI (aI (aI (aI @u11_0 @u11_1) (aI @u11_2 (aI @u11_3 @u11_4))) (aI (aI @u11_5 (aI @u11_6 @u11_7)) (aI @u11_8 (aI @u11_9 @u11_10)))) (aI (aI (aI @u11_11 (aI @u11_12 @u11_13)) (aI @u11_14 (aI @u11_15 @u11_16))) (aI (aI @u11_17 (aI @u11_18 @u11_19)) (aI @u11_20 (aI @u11_21 @u11_22))))) (aI (aI (aI (aI @u11_23 (aI @u11_24 @u11_25)) (aI @u11_26 (aI @u11_27 @u11_28))) (aI (aI @u11_29 (aI @u11_30 @u11_31)) (aI @u11_32 (aI @u11_33 @u11_34)))) (aI (aI (aI @u11_35 (aI @u11_36 @u11_37)) (aI @u11_38 (aI @u11_39 @u11_40))) (aI (aI @u11_41 (aI @u11_42 @u11_43)) (aI @u11_44 (aI @u11_45 @u11_46))))))
end
theorem ileftTimes_okp (n : Nat) (a : Bs) (v : Value) (l : List Bs) (ha : a.length = n) (hr : RowN n l) (hl : l.length ≤ 1000000) (w : World) (h : Sq fS 1 w v l) : Fn 75 [S a, v] w (fun r w' => Own fS 1 9 w.heap.size w' r (l.map (timesL a))) := by
  (refine callsV_of mix Try.func75 c_ileftTimes ?_; simp only [↓vsd, vsn, gW, qd, qv, ev, pick, argE, zipE, ne_eq, eq_self, forall_const, implies_true, if_true, if_false, reduceIte, reduceCtorEq, Nat.reduceEqDiff, Nat.reduceAdd, Nat.reduceLT, ↓us_ileftTimes, r_ileftTimes])
  refine m_bsl (by simp) ?_
  rintro b1 w1 hb1 hblk1 hx1 hs1
  have hq1 := h.ext hx1
  simp only [↓vsd, vsn, gW, qd, qv, ev, pick, argE, zipE, ne_eq, eq_self, forall_const, implies_true, if_true, if_false, reduceIte, reduceCtorEq, Nat.reduceEqDiff, Nat.reduceAdd, Nat.reduceLT, ↓us_ileftTimes, r_ileftTimes, hq1.facts]
  refine m_upto l.length (fun i vs w' => ∃ x, vs = [x, .int .i64 i] ∧ Own fS 1 9 w.heap.size w' x ((l.take i).map (timesL a)) ∧ Ext w w') ⟨_, rfl, (Own.empty fS_len hblk1 (by omega)).to rfl, hx1⟩ ?_
  rintro i vs w2 hi ⟨x, rfl, ho2, hx2⟩
  have hq2 := h.ext hx2
  by_cases hlt : i < l.length
  · have hltI : (i : Int) < l.length := by omega
    have hltJ : ¬ (l.length : Int) ≤ i := by omega
    have a2 := hq2.at1 [] hlt
    have hb := hr _ (getD_mem [] hlt)
    have hsn : (l.take (i + 1)).map (timesL a) = (l.take i).map (timesL a) ++ [timesL a (l.getD i [])] := by
      rw [List.take_add_one, List.getElem?_eq_getElem hlt, List.getD_eq_getElem?_getD, List.getElem?_eq_getElem hlt, List.map_append]; rfl
    simp only [↓vsd, vsn, gW, qd, qv, ev, pick, argE, zipE, ne_eq, eq_self, forall_const, implies_true, if_true, if_false, reduceIte, reduceCtorEq, Nat.reduceEqDiff, Nat.reduceAdd, Nat.reduceLT, ↓us_ileftTimes, r_ileftTimes, hltI, hltJ, hq2.facts, a2]
    refine ⟨by omega, m_call (itimes_ok a _ hb.1 (by rw [ha, hb.2]) _) ?_⟩
    rintro _ w3 hx3 rfl
    have hx3 : Ext w2 w3 := by first | exact hx3 | exact ud hx3 | exact ud (ud hx3)
    simp only [↓vsd, vsn, gW, qd, qv, ev, pick, argE, zipE, ne_eq, eq_self, forall_const, implies_true, if_true, if_false, reduceIte, reduceCtorEq, Nat.reduceEqDiff, Nat.reduceAdd, Nat.reduceLT, ↓us_ileftTimes, r_ileftTimes]
    refine m_bsl (one_el rfl) ?_
    rintro b4 w4 hb4 hblk4 hx4 hs4
    have hx4 : Ext w3 w4 := by first | exact hx4 | exact ud hx4 | exact ud (ud hx4)
    simp only [↓vsd, vsn, gW, qd, qv, ev, pick, argE, zipE, ne_eq, eq_self, forall_const, implies_true, if_true, if_false, reduceIte, reduceCtorEq, Nat.reduceEqDiff, Nat.reduceAdd, Nat.reduceLT, ↓us_ileftTimes, r_ileftTimes]
    have hx24 := hx3.trans hx4
    refine m_app (ho2.ext hx24) (Sq.one fS_len hblk4 rfl) fS_one (by decide) (by rw [List.length_map, List.length_take, List.length_singleton]; omega) (by decide) (hx2.trans hx24).size ?_
    rintro x5 w5 ho5 hg5
    have hx5 := (ho2.ext hx24).grown (hx2.trans hx24) (Nat.le_refl _) hg5
    simp only [↓vsd, vsn, gW, qd, qv, ev, pick, argE, zipE, ne_eq, eq_self, forall_const, implies_true, if_true, if_false, reduceIte, reduceCtorEq, Nat.reduceEqDiff, Nat.reduceAdd, Nat.reduceLT, ↓us_ileftTimes, r_ileftTimes]
    exact ⟨inR_i64 (by omega), UpTo.next hlt ⟨x5, rfl, ho5.to hsn.symm, hx5⟩⟩
  · obtain rfl : i = l.length := by omega
    have hltI : ¬ (l.length : Int) < l.length := by omega
    rw [List.take_length] at ho2
    simp only [↓vsd, vsn, gW, qd, qv, ev, pick, argE, zipE, ne_eq, eq_self, forall_const, implies_true, if_true, if_false, reduceIte, reduceCtorEq, Nat.reduceEqDiff, Nat.reduceAdd, Nat.reduceLT, ↓us_ileftTimes, r_ileftTimes, hltI]
    exact ⟨hx2, ho2⟩
theorem sl6Left_ok (n : Nat) (a : Bs) (v : Value) (l : List Bs) (ha : a.length = n) (hr : RowN n l) (hl : l.length ≤ 1000000) (w : World) (h : Sq fS 1 w v l) : Fn 77 [S a, v] w (fun r w' => Own fS 1 9 w.heap.size w' r (l.map (timesL a))) := by
  (refine callsV_of mix Try.func77 c_sl6Left ?_; simp only [↓vsd, vsn, gW, qd, qv, ev, pick, argE, zipE, ne_eq, eq_self, forall_const, implies_true, if_true, if_false, reduceIte, reduceCtorEq, Nat.reduceEqDiff, Nat.reduceAdd, Nat.reduceLT, ↓us_sl6Left, r_sl6Left])
  simp only [↓vsd, vsn, gW, qd, qv, ev, pick, argE, zipE, ne_eq, eq_self, forall_const, implies_true, if_true, if_false, reduceIte, reduceCtorEq, Nat.reduceEqDiff, Nat.reduceAdd, Nat.reduceLT, ↓us_sl6Left, r_sl6Left, h.facts]
  refine m_upto l.length (fun i vs w' => ∃ x, vs = [x, .int .i64 i] ∧ Own fS 1 9 w.heap.size w' x ((l.take i).map (timesL a)) ∧ Ext w w') ⟨_, rfl, Own.nil fS_len, Ext.refl _⟩ ?_
  rintro i vs w2 hi ⟨x, rfl, ho2, hx2⟩
  have hq2 := h.ext hx2
  by_cases hlt : i < l.length
  · have hltI : (i : Int) < l.length := by omega
    have hltJ : ¬ (l.length : Int) ≤ i := by omega
    have a2 := hq2.at1 [] hlt
    have hb := hr _ (getD_mem [] hlt)
    have hsn : (l.take (i + 1)).map (timesL a) = (l.take i).map (timesL a) ++ [timesL a (l.getD i [])] := by
      rw [List.take_add_one, List.getElem?_eq_getElem hlt, List.getD_eq_getElem?_getD, List.getElem?_eq_getElem hlt, List.map_append]; rfl
    simp only [↓vsd, vsn, gW, qd, qv, ev, pick, argE, zipE, ne_eq, eq_self, forall_const, implies_true, if_true, if_false, reduceIte, reduceCtorEq, Nat.reduceEqDiff, Nat.reduceAdd, Nat.reduceLT, ↓us_sl6Left, r_sl6Left, hltI, hltJ, hq2.facts, a2]
    refine ⟨by omega, m_call (sl1Times_ok a _ hb.1 (by rw [ha, hb.2]) _) ?_⟩
    rintro _ w3 hx3 rfl
    have hx3 : Ext w2 w3 := by first | exact hx3 | exact ud hx3 | exact ud (ud hx3)
    simp only [↓vsd, vsn, gW, qd, qv, ev, pick, argE, zipE, ne_eq, eq_self, forall_const, implies_true, if_true, if_false, reduceIte, reduceCtorEq, Nat.reduceEqDiff, Nat.reduceAdd, Nat.reduceLT, ↓us_sl6Left, r_sl6Left]
    refine m_bsl (one_el rfl) ?_
    rintro b4 w4 hb4 hblk4 hx4 hs4
    have hx4 : Ext w3 w4 := by first | exact hx4 | exact ud hx4 | exact ud (ud hx4)
    simp only [↓vsd, vsn, gW, qd, qv, ev, pick, argE, zipE, ne_eq, eq_self, forall_const, implies_true, if_true, if_false, reduceIte, reduceCtorEq, Nat.reduceEqDiff, Nat.reduceAdd, Nat.reduceLT, ↓us_sl6Left, r_sl6Left]
    have hx24 := hx3.trans hx4
    refine m_app (ho2.ext hx24) (Sq.one fS_len hblk4 rfl) fS_one (by decide) (by rw [List.length_map, List.length_take, List.length_singleton]; omega) (by decide) (hx2.trans hx24).size ?_
    rintro x5 w5 ho5 hg5
    have hx5 := (ho2.ext hx24).grown (hx2.trans hx24) (Nat.le_refl _) hg5
    simp only [↓vsd, vsn, gW, qd, qv, ev, pick, argE, zipE, ne_eq, eq_self, forall_const, implies_true, if_true, if_false, reduceIte, reduceCtorEq, Nat.reduceEqDiff, Nat.reduceAdd, Nat.reduceLT, ↓us_sl6Left, r_sl6Left]
    exact ⟨inR_i64 (by omega), UpTo.next hlt ⟨x5, rfl, ho5.to hsn.symm, hx5⟩⟩
  · obtain rfl : i = l.length := by omega
    have hltI : ¬ (l.length : Int) < l.length := by omega
    rw [List.take_length] at ho2
    simp only [↓vsd, vsn, gW, qd, qv, ev, pick, argE, zipE, ne_eq, eq_self, forall_const, implies_true, if_true, if_false, reduceIte, reduceCtorEq, Nat.reduceEqDiff, Nat.reduceAdd, Nat.reduceLT, ↓us_sl6Left, r_sl6Left, hltI]
    exact ⟨hx2, ho2⟩
/-- The rows l are valid, and of stage n. -/
def AreRows (n : Int) (l : List Bs) : Prop := IsRows l ∧ (l.length = 0 ∨ (stgL l : Int) = n)
instance (n : Int) (l : List Bs) : Decidable (AreRows n l) := by unfold AreRows IsRows; infer_instance
theorem AreRows.n {n : Nat} {l : List Bs} (h : AreRows n l) : RowN n l := fun r hr => by
  have h1 := h.1.1 r hr
  have hp := List.length_pos_of_mem hr
  rcases h.2 with h2 | h2
  · omega
  · exact ⟨h1.1, by have : r.length = stgL l := h1.2; omega⟩
theorem iareRowsOf_ok (n : Int) (v : Value) (l : List Bs) (hl : l.length ≤ 1000000000) (w : World) (h : Sq fS 1 w v l) : Fn 57 [.int .i64 n, v] w (fun r _ => r = .bool (decide (AreRows n l))) := by
  (refine callsV_of mix Try.func57 c_iareRowsOf ?_; simp only [↓vsd, vsn, gW, qd, qv, ev, pick, argE, zipE, ne_eq, eq_self, forall_const, implies_true, if_true, if_false, reduceIte, reduceCtorEq, Nat.reduceEqDiff, Nat.reduceAdd, Nat.reduceLT, ↓us_iareRowsOf, r_iareRowsOf])
  refine m_call (iGoodRows_ok v l hl _ h) ?_
  rintro _ w1 hx1 rfl
  have hq1 := h.ext hx1
  by_cases hr : IsRows l
  · by_cases h0 : 0 < l.length
    · have h0I : ¬ (l.length : Int) = 0 := by omega
      have h0N : ¬ l.length = 0 := by omega
      have a1 := hq1.at0 [] h0
      simp only [↓vsd, vsn, gW, qd, qv, ev, pick, argE, zipE, ne_eq, eq_self, forall_const, implies_true, if_true, if_false, reduceIte, reduceCtorEq, Nat.reduceEqDiff, Nat.reduceAdd, Nat.reduceLT, ↓us_iareRowsOf, r_iareRowsOf, hr, hq1.facts, h0I, a1]
      refine ⟨by omega, hx1, ?_⟩
      rw [decide_eq_decide.2 (show AreRows n l ↔ ((l.getD 0 []).length : Int) = n from ⟨fun hh => hh.2.resolve_left h0N, fun hh => ⟨hr, .inr hh⟩⟩)]
    · have h0I : (l.length : Int) = 0 := by omega
      simp only [↓vsd, vsn, gW, qd, qv, ev, pick, argE, zipE, ne_eq, eq_self, forall_const, implies_true, if_true, if_false, reduceIte, reduceCtorEq, Nat.reduceEqDiff, Nat.reduceAdd, Nat.reduceLT, ↓us_iareRowsOf, r_iareRowsOf, hr, hq1.facts, h0I]
      exact ⟨hx1, (decide_eq_true ⟨hr, .inl (by omega)⟩).symm⟩
  · simp only [↓vsd, vsn, gW, qd, qv, ev, pick, argE, zipE, ne_eq, eq_self, forall_const, implies_true, if_true, if_false, reduceIte, reduceCtorEq, Nat.reduceEqDiff, Nat.reduceAdd, Nat.reduceLT, ↓us_iareRowsOf, r_iareRowsOf, hr]
    exact ⟨hx1, (decide_eq_false fun hh => hr hh.1).symm⟩
theorem sl1Least_oko (a b : Int) (w : World) : Fn 61 [.int .i64 a, .int .i64 b] w (fun r _ => r = .int .i64 (min a b)) := by
  (refine callsV_of mix Try.func61 c_sl1Least ?_; simp only [↓vsd, vsn, gW, qd, qv, ev, pick, argE, zipE, ne_eq, eq_self, forall_const, implies_true, if_true, if_false, reduceIte, reduceCtorEq, Nat.reduceEqDiff, Nat.reduceAdd, Nat.reduceLT, ↓us_sl1Least, r_sl1Least])
  exact ⟨fun h => ⟨Ext.refl _, by rw [Int.min_def, if_pos (by omega)]⟩, fun h => ⟨Ext.refl _, by rw [Int.min_def]; split <;> first | rfl | (congr 1; omega)⟩⟩
def OrbOk (l : List Bs) (n : Int) : Prop := (3 ≤ n ∧ n ≤ 8) ∧ AreRows n l
instance (l : List Bs) (n : Int) : Decidable (OrbOk l n) := by unfold OrbOk; infer_instance
def orbV (l : List Bs) (n : Int) : List (List Int) := if OrbOk l n then orbK (labF l n.toNat) n.toNat n.toNat else []
/-- The labels as they stand in memory. -/
def partV (P : List Nat) : List Int := 0 :: P.map fun q : Nat => (q : Int) + 1
theorem partV_len (P : List Nat) : (partV P).length = P.length + 1 := by simp [partV]
theorem partV_get (P : List Nat) (p : Nat) (h : p < P.length) : (partV P).getD (p + 1) 0 = (P.getD p 0 : Int) + 1 := by
  unfold partV
  rw [List.getD_cons_succ, List.getD_eq_getElem?_getD, List.getElem?_map, List.getD_eq_getElem?_getD, List.getElem?_eq_getElem h]; rfl
theorem partV_set (P : List Nat) (p m : Nat) : (partV P).set (p + 1) ((m : Int) + 1) = partV (P.set p m) := by
  unfold partV
  rw [List.set_cons_succ, List.map_set]
/-- The places below p of a label. -/
def clsT (P : List Nat) (c p : Nat) : List Int := ((List.range p).filter fun q => decide (P.getD q 0 = c)).map fun q : Nat => (q : Int) + 1
theorem clsT_succ (P : List Nat) (c p : Nat) : clsT P c (p + 1) = clsT P c p ++ if P.getD p 0 = c then [(p : Int) + 1] else [] := by
  unfold clsT
  rw [List.range_succ, List.filter_append, List.map_append]
  congr 1
  by_cases e : P.getD p 0 = c
  · rw [if_pos e, List.filter_cons_of_pos (by simpa using e)]; rfl
  · rw [if_neg e, List.filter_cons_of_neg (by simpa using e)]; rfl
set_option maxHeartbeats 2000000 in
theorem sOrbitsOf_ok (v : Value) (l : List Bs) (n : Int) (hl : l.length ≤ 1000000) (w : World) (h : Sq fS 1 w v l) : Fn 11 [v, .int .i64 n] w (fun r w' => ∃ y, r = .tuple ⟨[y, .bool (decide (OrbOk l n))]⟩ ∧ Sq2 fI w' y (orbV l n)) := by
  (refine callsV_of mix Try.func11 c_sOrbitsOf ?_; simp only [↓vsd, vsn, gW, qd, qv, ev, pick, argE, zipE, ne_eq, eq_self, forall_const, implies_true, if_true, if_false, reduceIte, reduceCtorEq, Nat.reduceEqDiff, Nat.reduceAdd, Nat.reduceLT, ↓us_sOrbitsOf, r_sOrbitsOf])
  refine m_call (sl1In_ok _ _ _ _) ?_
  rintro _ w1 hx1 rfl
  have hq1 := h.ext hx1
  have hno : ¬ OrbOk l n → ∀ w', ∃ y, Value.tuple ⟨[.slice none 0 0, .bool false]⟩ = .tuple ⟨[y, .bool (decide (OrbOk l n))]⟩ ∧ Sq2 fI w' y (orbV l n) := fun hn w' =>
    ⟨_, by rw [decide_eq_false hn], by rw [orbV, if_neg hn]; exact (NestU.nil (E1 := 3) (E2 := 31) (B := 0) (T := 0)).sq⟩
  by_cases hn : 3 ≤ n ∧ n ≤ 8
  · obtain ⟨n, rfl⟩ : ∃ m : Nat, n = m := ⟨n.toNat, by omega⟩
    have h38 : 3 ≤ n ∧ n ≤ 8 := by omega
    have eN : (n : Int) + 1 = ((n + 1 : Nat) : Int) := by omega
    have hnd : (decide ((3 : Int) ≤ (n : Int)) && decide ((n : Int) ≤ (8 : Int))) = true := by rw [Bool.and_eq_true, decide_eq_true_eq, decide_eq_true_eq]; omega
    simp only [↓vsd, vsn, gW, qd, qv, ev, pick, argE, zipE, ne_eq, eq_self, forall_const, implies_true, if_true, if_false, reduceIte, reduceCtorEq, Nat.reduceEqDiff, Nat.reduceAdd, Nat.reduceLT, ↓us_sOrbitsOf, r_sOrbitsOf, hnd]
    refine m_call (sl6Rows_ok v l (by omega) _ hq1) ?_
    rintro _ w2 hx2 rfl
    have hx2 : Ext w1 w2 := by first | exact hx2 | exact ud hx2 | exact ud (ud hx2)
    have hx12 := hx1.trans hx2
    have hq2 := hq1.ext hx2
    by_cases hr : IsRows l
    · by_cases hz : 0 < l.length
      · have hzI : (0 : Int) < l.length := by omega
        have a1 := hq1.at0 [] hz
        have a2 := hq2.at0 [] hz
        by_cases hst : ((l.getD 0 []).length : Int) = n
        · simp only [↓vsd, vsn, gW, qd, qv, ev, pick, argE, zipE, ne_eq, eq_self, forall_const, implies_true, if_true, if_false, reduceIte, reduceCtorEq, Nat.reduceEqDiff, Nat.reduceAdd, Nat.reduceLT, ↓us_sOrbitsOf, r_sOrbitsOf, hr, hq1.facts, hq2.facts, hzI, a1, a2, hst, eN]
          have hok : OrbOk l n := ⟨hn, hr, .inr hst⟩
          refine ⟨by omega, ?_⟩
          have hg := hok.2.n
          refine ⟨inR_i64 (by omega), ?_⟩
          refine m_msl (B := w.heap.size) (0 : Int) fI_len rfl (by omega) (by decide) hx12.size ?_
          rintro z w3 hz3 hzb hx3
          have hx13 := hx12.trans hx3
          simp only [↓vsd, vsn, gW, qd, qv, ev, pick, argE, zipE, ne_eq, eq_self, forall_const, implies_true, if_true, if_false, reduceIte, reduceCtorEq, Nat.reduceEqDiff, Nat.reduceAdd, Nat.reduceLT, ↓us_sOrbitsOf, r_sOrbitsOf, hz3.sq.facts, List.length_replicate]
          refine m_upto (n + 1) (fun k vs w' => vs = [.int .i64 k] ∧ (∃ L : List Int, L.length = n + 1 ∧ (∀ i < k, L.getD i 0 = (i : Int)) ∧ Own fI 1 3 w.heap.size w' z L) ∧ Ext w w') ⟨rfl, ⟨_, by simp, fun i hi => absurd hi (Nat.not_lt_zero i), hz3⟩, hx13⟩ ?_
          rintro k vs w4 hk ⟨rfl, ⟨L, hL, hLi, hz4⟩, hx4⟩
          by_cases hlt : k < n + 1
          · have hltI : (k : Int) < ((n + 1 : Nat) : Int) := by omega
            have hltJ : ¬ ((n + 1 : Nat) : Int) ≤ k := by omega
            have hz4f := hz4.sq.facts
            simp only [↓vsd, vsn, gW, qd, qv, ev, pick, argE, zipE, ne_eq, eq_self, forall_const, implies_true, if_true, if_false, reduceIte, reduceCtorEq, Nat.reduceEqDiff, Nat.reduceAdd, Nat.reduceLT, ↓us_sOrbitsOf, r_sOrbitsOf, hltI, hltJ, hz4f, hL]
            refine ⟨by omega, m_set1 k (k : Int) hz4 rfl (by omega) rfl fI_one ?_⟩
            rintro w5 hz5 hg5 _
            have hx5 := hz4.grown hx4 (Nat.le_refl _) hg5
            simp only [↓vsd, vsn, gW, qd, qv, ev, pick, argE, zipE, ne_eq, eq_self, forall_const, implies_true, if_true, if_false, reduceIte, reduceCtorEq, Nat.reduceEqDiff, Nat.reduceAdd, Nat.reduceLT, ↓us_sOrbitsOf, r_sOrbitsOf]
            refine ⟨inR_i64 (by omega), UpTo.next hlt ⟨rfl, ⟨_, by rw [List.length_set, hL], fun i hi => ?_, hz5⟩, hx5⟩⟩
            rw [getD_set]
            by_cases he : k = i
            · rw [if_pos ⟨he, by omega⟩, he]
            · rw [if_neg (fun hh => he hh.1)]; exact hLi i (by omega)
          · obtain rfl : k = n + 1 := by omega
            have hltI : ¬ ((n + 1 : Nat) : Int) < ((n + 1 : Nat) : Int) := by omega
            have hLp : L = partV (List.range n) := ext_getD (d := 0) (by rw [partV_len, List.length_range, hL]) fun i hi => by
              rw [hLi i (by omega)]
              cases i with
              | zero => rfl
              | succ i => rw [partV_get _ _ (by rw [List.length_range]; omega), getD_range _ _ _ (by omega)]; omega
            have hz4 := hz4.to hLp
            simp only [↓vsd, vsn, gW, qd, qv, ev, pick, argE, zipE, ne_eq, eq_self, forall_const, implies_true, if_true, if_false, reduceIte, reduceCtorEq, Nat.reduceEqDiff, Nat.reduceAdd, Nat.reduceLT, ↓us_sOrbitsOf, r_sOrbitsOf, hltI]
            refine m_upto n (fun k vs w' => vs = [.int .i64 k] ∧ Own fI 1 3 w.heap.size w' z (partV (labK l n k)) ∧ Ext w w') ⟨rfl, hz4, hx4⟩ ?_
            rintro k vs w5 hk ⟨rfl, hz5, hx5⟩
            have hq5 := h.ext hx5
            have hP := labK_ok hg k
            by_cases hlk : k < n
            · have hlkI : (k : Int) < (n : Int) := by omega
              have hlkJ : ¬ (n : Int) ≤ k := by omega
              simp only [↓vsd, vsn, gW, qd, qv, ev, pick, argE, zipE, ne_eq, eq_self, forall_const, implies_true, if_true, if_false, reduceIte, reduceCtorEq, Nat.reduceEqDiff, Nat.reduceAdd, Nat.reduceLT, ↓us_sOrbitsOf, r_sOrbitsOf, hlkI, hlkJ, hq5.facts]
              refine m_upto l.length (fun i vs w' => vs = [.int .i64 i] ∧ Own fI 1 3 w.heap.size w' z (partV (stepsR n (l.take i) (labK l n k))) ∧ Ext w w') ⟨rfl, hz5, hx5⟩ ?_
              rintro i vs w6 hi ⟨rfl, hz6, hx6⟩
              have hq6 := h.ext hx6
              have hPi := ((stepsR_ok hg (l.take i) (fun x hx => List.mem_of_mem_take hx) hP).1).1
              by_cases hli : i < l.length
              · have hliI : (i : Int) < l.length := by omega
                have hliJ : ¬ (l.length : Int) ≤ i := by omega
                have a6 := hq6.at1 [] hli
                have hgm := getD_mem [] hli
                have hgr := hg _ hgm
                have hsn : stepsR n (l.take (i + 1)) (labK l n k) = stepsG (l.getD i []) (stepsR n (l.take i) (labK l n k)) n := by rw [List.take_add_one, List.getElem?_eq_getElem hli, Option.toList_some, stepsR_snoc, List.getD_eq_getElem?_getD, List.getElem?_eq_getElem hli]; rfl
                generalize stepsR n (l.take i) (labK l n k) = Q at *
                generalize l.getD i [] = g at *
                simp only [↓vsd, vsn, gW, qd, qv, ev, pick, argE, zipE, ne_eq, eq_self, forall_const, implies_true, if_true, if_false, reduceIte, reduceCtorEq, Nat.reduceEqDiff, Nat.reduceAdd, Nat.reduceLT, ↓us_sOrbitsOf, r_sOrbitsOf, hliI, hliJ, hq6.facts, a6]
                refine ⟨by omega, ?_⟩
                refine m_upto n (fun p vs w' => vs = [.int .i64 (p + 1 : Nat)] ∧ Own fI 1 3 w.heap.size w' z (partV (stepsG g Q p)) ∧ Ext w w') ⟨rfl, hz6, by first | exact hx6 | exact dr hx6⟩ ?_
                rintro p vs w7 hp ⟨rfl, hz7, hx7⟩
                have hPp := ((stepsG_ok hg hgm hPi p hp).1).1
                have hss := stepsG_succ g Q p
                generalize hR : stepsG g Q p = R at *
                have hRl := hPp.len
                have hRL := partV_len R
                by_cases hlp : p < n
                · have hlpI : ((p + 1 : Nat) : Int) ≤ (n : Int) := by omega
                  have hbl : bell g p < n := edge_lt hg hgm hlp
                  have hbI : ((g.getD p 0).toNat : Int) - 48 = ((bell g p + 1 : Nat) : Int) := by
                    have := hgr.1.low (i := p) (by rw [hgr.2]; exact hlp)
                    unfold bell; omega
                  have h48 : 48 ≤ (g.getD p 0).toNat := by have := hgr.1.low (i := p) (by rw [hgr.2]; exact hlp); omega
                  have g7 := hz7.sq.facts
                  have b7 := hz7.sq.at1 0 (i := p + 1) (by omega)
                  rw [partV_get R p (by omega)] at b7
                  have hat : ∀ w, Fn 62 [S g, .int .i64 (p + 1 : Nat)] w (fun v _ => v = .int .i64 (bell g p + 1 : Nat)) := fun w => by
                    have := sl1At_ok g (p + 1) ⟨by omega, by rw [hgr.2]; omega⟩ h48 (by rw [hgr.2]; omega) w
                    rw [Nat.add_sub_cancel, hbI] at this
                    exact this
                  have hPb := hPp.le (bell g p) hbl
                  have hPq := hPp.le p hlp
                  have hmin : min (((R.getD p 0 : Nat) : Int) + 1) (((R.getD (bell g p) 0 : Nat) : Int) + 1) = ((min (R.getD p 0) (R.getD (bell g p) 0) : Nat) : Int) + 1 := by omega
                  simp only [↓vsd, vsn, gW, qd, qv, ev, pick, argE, zipE, ne_eq, eq_self, forall_const, implies_true, if_true, if_false, reduceIte, reduceCtorEq, Nat.reduceEqDiff, Nat.reduceAdd, Nat.reduceLT, ↓us_sOrbitsOf, r_sOrbitsOf, hlpI, g7, b7]
                  refine ⟨⟨by omega, by omega⟩, m_call (hat _) ?_⟩
                  rintro _ w8 hx8 rfl
                  have hx8 : Ext w7 w8 := by first | exact hx8 | exact ud hx8 | exact ud (ud hx8)
                  have hz8 := hz7.ext hx8
                  have g8 := hz8.sq.facts
                  have b8 := hz8.sq.at1 0 (i := p + 1) (by omega)
                  rw [partV_get R p (by omega)] at b8
                  have a8 := hz8.sq.at1 0 (i := bell g p + 1) (by omega)
                  rw [partV_get R (bell g p) (by omega)] at a8
                  have a7 := hz7.sq.at1 0 (i := bell g p + 1) (by omega)
                  rw [partV_get R (bell g p) (by omega)] at a7
                  simp only [↓vsd, vsn, gW, qd, qv, ev, pick, argE, zipE, ne_eq, eq_self, forall_const, implies_true, if_true, if_false, reduceIte, reduceCtorEq, Nat.reduceEqDiff, Nat.reduceAdd, Nat.reduceLT, ↓us_sOrbitsOf, r_sOrbitsOf, g8, b8, a8, a7]
                  refine ⟨⟨by omega, by omega⟩, m_call (sl1Least_oko _ _ _) ?_⟩
                  rintro _ w9 hx9 rfl
                  have hx9 : Ext w8 w9 := by first | exact hx9 | exact ud hx9 | exact ud (ud hx9)
                  rw [hmin]
                  have hz9 := hz8.ext hx9
                  have hx79 := hx8.trans hx9
                  simp only [↓vsd, vsn, gW, qd, qv, ev, pick, argE, zipE, ne_eq, eq_self, forall_const, implies_true, if_true, if_false, reduceIte, reduceCtorEq, Nat.reduceEqDiff, Nat.reduceAdd, Nat.reduceLT, ↓us_sOrbitsOf, r_sOrbitsOf, hz9.sq.facts]
                  refine ⟨⟨by omega, by omega⟩, m_set1 (p + 1) (((min (R.getD p 0) (R.getD (bell g p) 0) : Nat) : Int) + 1) hz9 rfl (by omega) rfl fI_one ?_⟩
                  rintro w10 hz10 hg10 _
                  have hx10 := hz9.grown (hx7.trans hx79) (Nat.le_refl _) hg10
                  rw [partV_set] at hz10
                  have hl10 := partV_len (R.set p (min (R.getD p 0) (R.getD (bell g p) 0)))
                  rw [List.length_set] at hl10
                  simp only [↓vsd, vsn, gW, qd, qv, ev, pick, argE, zipE, ne_eq, eq_self, forall_const, implies_true, if_true, if_false, reduceIte, reduceCtorEq, Nat.reduceEqDiff, Nat.reduceAdd, Nat.reduceLT, ↓us_sOrbitsOf, r_sOrbitsOf]
                  refine m_call (hat _) ?_
                  rintro _ w11 hx11 rfl
                  have hx11 : Ext w10 w11 := by first | exact hx11 | exact ud hx11 | exact ud (ud hx11)
                  have hz11 := hz10.ext hx11
                  simp only [↓vsd, vsn, gW, qd, qv, ev, pick, argE, zipE, ne_eq, eq_self, forall_const, implies_true, if_true, if_false, reduceIte, reduceCtorEq, Nat.reduceEqDiff, Nat.reduceAdd, Nat.reduceLT, ↓us_sOrbitsOf, r_sOrbitsOf, hz11.sq.facts]
                  refine ⟨⟨by omega, by omega⟩, m_set1 (bell g p + 1) (((min (R.getD p 0) (R.getD (bell g p) 0) : Nat) : Int) + 1) hz11 rfl (by omega) rfl fI_one ?_⟩
                  rintro w12 hz12 hg12 _
                  have hx12' := hz11.grown (hx10.trans hx11) (Nat.le_refl _) hg12
                  rw [partV_set] at hz12
                  have e1 : ((p + 1 : Nat) : Int) + 1 = ((p + 1 + 1 : Nat) : Int) := by omega
                  simp only [↓vsd, vsn, gW, qd, qv, ev, pick, argE, zipE, ne_eq, eq_self, forall_const, implies_true, if_true, if_false, reduceIte, reduceCtorEq, Nat.reduceEqDiff, Nat.reduceAdd, Nat.reduceLT, ↓us_sOrbitsOf, r_sOrbitsOf, e1]
                  exact ⟨inR_i64 (by omega), UpTo.next hlp ⟨rfl, hss ▸ hz12, hx12'⟩⟩
                · obtain rfl : p = n := by omega
                  have hlpI : ¬ ((p + 1 : Nat) : Int) ≤ (p : Int) := by omega
                  simp only [↓vsd, vsn, gW, qd, qv, ev, pick, argE, zipE, ne_eq, eq_self, forall_const, implies_true, if_true, if_false, reduceIte, reduceCtorEq, Nat.reduceEqDiff, Nat.reduceAdd, Nat.reduceLT, ↓us_sOrbitsOf, r_sOrbitsOf, hlpI]
                  exact ⟨inR_i64 (by omega), UpTo.next hli ⟨rfl, hsn ▸ hR ▸ hz7, hx7⟩⟩
              · obtain rfl : i = l.length := by omega
                have hliI : ¬ ((l.length : Nat) : Int) < l.length := by omega
                rw [List.take_length] at hz6
                simp only [↓vsd, vsn, gW, qd, qv, ev, pick, argE, zipE, ne_eq, eq_self, forall_const, implies_true, if_true, if_false, reduceIte, reduceCtorEq, Nat.reduceEqDiff, Nat.reduceAdd, Nat.reduceLT, ↓us_sOrbitsOf, r_sOrbitsOf, hliI]
                exact ⟨inR_i64 (by omega), UpTo.next hlk ⟨rfl, hz6, hx6⟩⟩
            · obtain rfl : k = n := by omega
              have hlkI : ¬ (k : Int) < (k : Int) := by omega
              simp only [↓vsd, vsn, gW, qd, qv, ev, pick, argE, zipE, ne_eq, eq_self, forall_const, implies_true, if_true, if_false, reduceIte, reduceCtorEq, Nat.reduceEqDiff, Nat.reduceAdd, Nat.reduceLT, ↓us_sOrbitsOf, r_sOrbitsOf, hlkI]
              have hF : labK l k k = labF l k := rfl
              rw [hF] at hz5 hP
              generalize hPF : labF l k = P at *
              have hPl := hP.len
              have hPL := partV_len P
              refine m_upto k (fun c vs w' => ∃ y, vs = [y, .int .i64 (c + 1 : Nat)] ∧ NestU fI 3 31 w5.heap.size w'.heap.size w' y (orbK P k c) ∧ (orbK P k c).length ≤ c ∧ Ext w5 w') ⟨_, rfl, NestU.nil, by simp [orbK], Ext.refl _⟩ ?_
              rintro c vs w6 hc ⟨y, rfl, hN6, hcl, hx6⟩
              have hz6 := hz5.ext hx6
              have hx06 := hx5.trans hx6
              by_cases hlc : c < k
              · have hlcI : ((c + 1 : Nat) : Int) ≤ (k : Int) := by omega
                have hos := orbK_succ P k c
                simp only [↓vsd, vsn, gW, qd, qv, ev, pick, argE, zipE, ne_eq, eq_self, forall_const, implies_true, if_true, if_false, reduceIte, reduceCtorEq, Nat.reduceEqDiff, Nat.reduceAdd, Nat.reduceLT, ↓us_sOrbitsOf, r_sOrbitsOf, hlcI]
                refine m_upto k (fun p vs w' => ∃ x, vs = [x, .int .i64 (p + 1 : Nat)] ∧ Own fI 1 3 w6.heap.size w' x (clsT P c p) ∧ (clsT P c p).length ≤ p ∧ Ext w6 w') ⟨_, rfl, (Own.nil fI_len).to rfl, by simp [clsT], Ext.refl _⟩ ?_
                rintro p vs w7 hp ⟨x, rfl, hx7o, hpl, hx7⟩
                have hz7 := hz6.ext hx7
                by_cases hlp : p < k
                · have hlpI : ((p + 1 : Nat) : Int) ≤ (k : Int) := by omega
                  have b7 := hz7.sq.at1 0 (i := p + 1) (by omega)
                  rw [partV_get P p (by omega)] at b7
                  have hts := clsT_succ P c p
                  have e1 : ((p + 1 : Nat) : Int) + 1 = ((p + 1 + 1 : Nat) : Int) := by omega
                  by_cases he : P.getD p 0 = c
                  · have heI : ((P.getD p 0 : Nat) : Int) + 1 = ((c + 1 : Nat) : Int) := by omega
                    rw [if_pos he] at hts
                    simp only [↓vsd, vsn, gW, qd, qv, ev, pick, argE, zipE, ne_eq, eq_self, forall_const, implies_true, if_true, if_false, reduceIte, reduceCtorEq, Nat.reduceEqDiff, Nat.reduceAdd, Nat.reduceLT, ↓us_sOrbitsOf, r_sOrbitsOf, hlpI, hz7.sq.facts, b7, heI, e1]
                    refine ⟨⟨by omega, by omega⟩, m_bsl (fun p hp => by simp only [List.mem_cons, List.not_mem_nil, or_false] at hp; rw [hp]; rfl) ?_⟩
                    rintro b8 w8 hb8 hblk8 hx8 hs8
                    have hx8 : Ext w7 w8 := by first | exact hx8 | exact ud hx8 | exact ud (ud hx8)
                    have hx68 := hx7.trans hx8
                    have ep : ((p + 1 : Nat) : Int) = (p : Int) + 1 := by omega
                    simp only [↓vsd, vsn, gW, qd, qv, ev, pick, argE, zipE, ne_eq, eq_self, forall_const, implies_true, if_true, if_false, reduceIte, reduceCtorEq, Nat.reduceEqDiff, Nat.reduceAdd, Nat.reduceLT, ↓us_sOrbitsOf, r_sOrbitsOf]
                    refine m_app (hx7o.ext hx8) (Sq.one (f := fI) (a := (p : Int) + 1) fI_len hblk8 (by rw [ep]; rfl)) fI_one (by decide) (by rw [List.length_singleton]; omega) (by decide) hx68.size ?_
                    rintro x9 w9 ho9 hg9
                    have hx9 := (hx7o.ext hx8).grown hx68 (Nat.le_refl _) hg9
                    simp only [↓vsd, vsn, gW, qd, qv, ev, pick, argE, zipE, ne_eq, eq_self, forall_const, implies_true, if_true, if_false, reduceIte, reduceCtorEq, Nat.reduceEqDiff, Nat.reduceAdd, Nat.reduceLT, ↓us_sOrbitsOf, r_sOrbitsOf, e1]
                    exact ⟨inR_i64 (by omega), UpTo.next hlp ⟨x9, rfl, ho9.to hts.symm, by rw [hts, List.length_append, List.length_singleton]; omega, hx9⟩⟩
                  · have heI : ¬ ((P.getD p 0 : Nat) : Int) + 1 = ((c + 1 : Nat) : Int) := by omega
                    rw [if_neg he, List.append_nil] at hts
                    simp only [↓vsd, vsn, gW, qd, qv, ev, pick, argE, zipE, ne_eq, eq_self, forall_const, implies_true, if_true, if_false, reduceIte, reduceCtorEq, Nat.reduceEqDiff, Nat.reduceAdd, Nat.reduceLT, ↓us_sOrbitsOf, r_sOrbitsOf, hlpI, hz7.sq.facts, b7, heI, e1]
                    exact ⟨⟨by omega, by omega⟩, inR_i64 (by omega), UpTo.next hlp ⟨x, rfl, (hx7o.ext (by first | exact Ext.refl _ | exact dr (Ext.refl _))).to hts.symm, by rw [hts]; omega, by first | exact hx7 | exact dr hx7⟩⟩
                · obtain rfl : p = k := by omega
                  have hlpI : ¬ ((p + 1 : Nat) : Int) ≤ (p : Int) := by omega
                  have e1 : ((c + 1 : Nat) : Int) + 1 = ((c + 1 + 1 : Nat) : Int) := by omega
                  have hTL : clsT P c p = clsL P p c := rfl
                  have hTl : (clsT P c p).length = (clsN P p c).length := by rw [hTL, clsL, List.length_map]
                  have hN7 := hN6.ext hx7
                  by_cases h0 : 0 < (clsT P c p).length
                  · have h0I : (0 : Int) < (clsT P c p).length := by omega
                    have hne : clsN P p c ≠ [] := fun e => by rw [hTl, e] at h0; simp at h0
                    rw [if_neg hne, ← hTL] at hos
                    obtain ⟨sx, rfl⟩ := hx7o.sq.sv
                    simp only [↓vsd, vsn, gW, qd, qv, ev, pick, argE, zipE, ne_eq, eq_self, forall_const, implies_true, if_true, if_false, reduceIte, reduceCtorEq, Nat.reduceEqDiff, Nat.reduceAdd, Nat.reduceLT, ↓us_sOrbitsOf, r_sOrbitsOf, hlpI, hx7o.sq.facts, h0I]
                    refine m_bsl (one_el rfl) ?_
                    rintro b8 w8 hb8 hblk8 hx8 hs8
                    have hx8 : Ext w7 w8 := by first | exact hx8 | exact ud hx8 | exact ud (ud hx8)
                    have hx68 := hx7.trans hx8
                    simp only [↓vsd, vsn, gW, qd, qv, ev, pick, argE, zipE, ne_eq, eq_self, forall_const, implies_true, if_true, if_false, reduceIte, reduceCtorEq, Nat.reduceEqDiff, Nat.reduceAdd, Nat.reduceLT, ↓us_sOrbitsOf, r_sOrbitsOf]
                    refine m_pushU (hN7.ext hx8) (Sq.one (a := sx) fSV_len hblk8 rfl) ((hx7o.ext hx8).mono hx6.size) (fun c hc => (hx7o.bound c hc).1) hx68.size (by omega) rfl (by decide) (hx6.trans hx68).size ?_
                    rintro y9 w9 hN9 hg9
                    have hx9 := ext_grow (hx6.trans hx68) hg9 (fun c hc => ((hN7.ext hx8).bound c hc).1)
                    simp only [↓vsd, vsn, gW, qd, qv, ev, pick, argE, zipE, ne_eq, eq_self, forall_const, implies_true, if_true, if_false, reduceIte, reduceCtorEq, Nat.reduceEqDiff, Nat.reduceAdd, Nat.reduceLT, ↓us_sOrbitsOf, r_sOrbitsOf, e1]
                    exact ⟨inR_i64 (by omega), UpTo.next hlc ⟨y9, rfl, hN9.to hos.symm, by rw [hos, List.length_append, List.length_singleton]; omega, hx9⟩⟩
                  · have h0I : ¬ (0 : Int) < (clsT P c p).length := by omega
                    have he0 : clsN P p c = [] := List.length_eq_zero_iff.1 (by omega)
                    rw [if_pos he0, List.append_nil] at hos
                    simp only [↓vsd, vsn, gW, qd, qv, ev, pick, argE, zipE, ne_eq, eq_self, forall_const, implies_true, if_true, if_false, reduceIte, reduceCtorEq, Nat.reduceEqDiff, Nat.reduceAdd, Nat.reduceLT, ↓us_sOrbitsOf, r_sOrbitsOf, hlpI, hx7o.sq.facts, h0I, e1]
                    exact ⟨inR_i64 (by omega), UpTo.next hlc ⟨y, rfl, (hN7.mono (Nat.le_refl _) hx7.size).to hos.symm, by rw [hos]; omega, hx6.trans hx7⟩⟩
              · obtain rfl : c = k := by omega
                have hlcI : ¬ ((c + 1 : Nat) : Int) ≤ (c : Int) := by omega
                simp only [↓vsd, vsn, gW, qd, qv, ev, pick, argE, zipE, ne_eq, eq_self, forall_const, implies_true, if_true, if_false, reduceIte, reduceCtorEq, Nat.reduceEqDiff, Nat.reduceAdd, Nat.reduceLT, ↓us_sOrbitsOf, r_sOrbitsOf, hlcI]
                exact ⟨hx06, y, by rw [decide_eq_true hok], by rw [orbV, if_pos hok, Int.toNat_natCast, hPF]; exact hN6.sq⟩
        · simp only [↓vsd, vsn, gW, qd, qv, ev, pick, argE, zipE, ne_eq, eq_self, forall_const, implies_true, if_true, if_false, reduceIte, reduceCtorEq, Nat.reduceEqDiff, Nat.reduceAdd, Nat.reduceLT, ↓us_sOrbitsOf, r_sOrbitsOf, hr, hq1.facts, hq2.facts, hzI, a1, a2, hst]
          exact ⟨by omega, hx12, hno (fun hh => by rcases hh.2.2 with h1 | h1; omega; exact hst h1) _⟩
      · have hzI : ¬ (0 : Int) < l.length := by omega
        simp only [↓vsd, vsn, gW, qd, qv, ev, pick, argE, zipE, ne_eq, eq_self, forall_const, implies_true, if_true, if_false, reduceIte, reduceCtorEq, Nat.reduceEqDiff, Nat.reduceAdd, Nat.reduceLT, ↓us_sOrbitsOf, r_sOrbitsOf, hr, hq1.facts, hq2.facts, hzI, eN]
        have hok : OrbOk l n := ⟨hn, hr, .inl (by omega)⟩
        have hg := hok.2.n
        refine ⟨inR_i64 (by omega), ?_⟩
        refine m_msl (B := w.heap.size) (0 : Int) fI_len rfl (by omega) (by decide) hx12.size ?_
        rintro z w3 hz3 hzb hx3
        have hx13 := hx12.trans hx3
        simp only [↓vsd, vsn, gW, qd, qv, ev, pick, argE, zipE, ne_eq, eq_self, forall_const, implies_true, if_true, if_false, reduceIte, reduceCtorEq, Nat.reduceEqDiff, Nat.reduceAdd, Nat.reduceLT, ↓us_sOrbitsOf, r_sOrbitsOf, hz3.sq.facts, List.length_replicate]
        refine m_upto (n + 1) (fun k vs w' => vs = [.int .i64 k] ∧ (∃ L : List Int, L.length = n + 1 ∧ (∀ i < k, L.getD i 0 = (i : Int)) ∧ Own fI 1 3 w.heap.size w' z L) ∧ Ext w w') ⟨rfl, ⟨_, by simp, fun i hi => absurd hi (Nat.not_lt_zero i), hz3⟩, hx13⟩ ?_
        rintro k vs w4 hk ⟨rfl, ⟨L, hL, hLi, hz4⟩, hx4⟩
        by_cases hlt : k < n + 1
        · have hltI : (k : Int) < ((n + 1 : Nat) : Int) := by omega
          have hltJ : ¬ ((n + 1 : Nat) : Int) ≤ k := by omega
          have hz4f := hz4.sq.facts
          simp only [↓vsd, vsn, gW, qd, qv, ev, pick, argE, zipE, ne_eq, eq_self, forall_const, implies_true, if_true, if_false, reduceIte, reduceCtorEq, Nat.reduceEqDiff, Nat.reduceAdd, Nat.reduceLT, ↓us_sOrbitsOf, r_sOrbitsOf, hltI, hltJ, hz4f, hL]
          refine ⟨by omega, m_set1 k (k : Int) hz4 rfl (by omega) rfl fI_one ?_⟩
          rintro w5 hz5 hg5 _
          have hx5 := hz4.grown hx4 (Nat.le_refl _) hg5
          simp only [↓vsd, vsn, gW, qd, qv, ev, pick, argE, zipE, ne_eq, eq_self, forall_const, implies_true, if_true, if_false, reduceIte, reduceCtorEq, Nat.reduceEqDiff, Nat.reduceAdd, Nat.reduceLT, ↓us_sOrbitsOf, r_sOrbitsOf]
          refine ⟨inR_i64 (by omega), UpTo.next hlt ⟨rfl, ⟨_, by rw [List.length_set, hL], fun i hi => ?_, hz5⟩, hx5⟩⟩
          rw [getD_set]
          by_cases he : k = i
          · rw [if_pos ⟨he, by omega⟩, he]
          · rw [if_neg (fun hh => he hh.1)]; exact hLi i (by omega)
        · obtain rfl : k = n + 1 := by omega
          have hltI : ¬ ((n + 1 : Nat) : Int) < ((n + 1 : Nat) : Int) := by omega
          have hLp : L = partV (List.range n) := ext_getD (d := 0) (by rw [partV_len, List.length_range, hL]) fun i hi => by
            rw [hLi i (by omega)]
            cases i with
            | zero => rfl
            | succ i => rw [partV_get _ _ (by rw [List.length_range]; omega), getD_range _ _ _ (by omega)]; omega
          have hz4 := hz4.to hLp
          simp only [↓vsd, vsn, gW, qd, qv, ev, pick, argE, zipE, ne_eq, eq_self, forall_const, implies_true, if_true, if_false, reduceIte, reduceCtorEq, Nat.reduceEqDiff, Nat.reduceAdd, Nat.reduceLT, ↓us_sOrbitsOf, r_sOrbitsOf, hltI]
          refine m_upto n (fun k vs w' => vs = [.int .i64 k] ∧ Own fI 1 3 w.heap.size w' z (partV (labK l n k)) ∧ Ext w w') ⟨rfl, hz4, hx4⟩ ?_
          rintro k vs w5 hk ⟨rfl, hz5, hx5⟩
          have hq5 := h.ext hx5
          have hP := labK_ok hg k
          by_cases hlk : k < n
          · have hlkI : (k : Int) < (n : Int) := by omega
            have hlkJ : ¬ (n : Int) ≤ k := by omega
            simp only [↓vsd, vsn, gW, qd, qv, ev, pick, argE, zipE, ne_eq, eq_self, forall_const, implies_true, if_true, if_false, reduceIte, reduceCtorEq, Nat.reduceEqDiff, Nat.reduceAdd, Nat.reduceLT, ↓us_sOrbitsOf, r_sOrbitsOf, hlkI, hlkJ, hq5.facts]
            refine m_upto l.length (fun i vs w' => vs = [.int .i64 i] ∧ Own fI 1 3 w.heap.size w' z (partV (stepsR n (l.take i) (labK l n k))) ∧ Ext w w') ⟨rfl, hz5, hx5⟩ ?_
            rintro i vs w6 hi ⟨rfl, hz6, hx6⟩
            have hq6 := h.ext hx6
            have hPi := ((stepsR_ok hg (l.take i) (fun x hx => List.mem_of_mem_take hx) hP).1).1
            by_cases hli : i < l.length
            · have hliI : (i : Int) < l.length := by omega
              have hliJ : ¬ (l.length : Int) ≤ i := by omega
              have a6 := hq6.at1 [] hli
              have hgm := getD_mem [] hli
              have hgr := hg _ hgm
              have hsn : stepsR n (l.take (i + 1)) (labK l n k) = stepsG (l.getD i []) (stepsR n (l.take i) (labK l n k)) n := by rw [List.take_add_one, List.getElem?_eq_getElem hli, Option.toList_some, stepsR_snoc, List.getD_eq_getElem?_getD, List.getElem?_eq_getElem hli]; rfl
              generalize stepsR n (l.take i) (labK l n k) = Q at *
              generalize l.getD i [] = g at *
              simp only [↓vsd, vsn, gW, qd, qv, ev, pick, argE, zipE, ne_eq, eq_self, forall_const, implies_true, if_true, if_false, reduceIte, reduceCtorEq, Nat.reduceEqDiff, Nat.reduceAdd, Nat.reduceLT, ↓us_sOrbitsOf, r_sOrbitsOf, hliI, hliJ, hq6.facts, a6]
              refine ⟨by omega, ?_⟩
              refine m_upto n (fun p vs w' => vs = [.int .i64 (p + 1 : Nat)] ∧ Own fI 1 3 w.heap.size w' z (partV (stepsG g Q p)) ∧ Ext w w') ⟨rfl, hz6, by first | exact hx6 | exact dr hx6⟩ ?_
              rintro p vs w7 hp ⟨rfl, hz7, hx7⟩
              have hPp := ((stepsG_ok hg hgm hPi p hp).1).1
              have hss := stepsG_succ g Q p
              generalize hR : stepsG g Q p = R at *
              have hRl := hPp.len
              have hRL := partV_len R
              by_cases hlp : p < n
              · have hlpI : ((p + 1 : Nat) : Int) ≤ (n : Int) := by omega
                have hbl : bell g p < n := edge_lt hg hgm hlp
                have hbI : ((g.getD p 0).toNat : Int) - 48 = ((bell g p + 1 : Nat) : Int) := by
                  have := hgr.1.low (i := p) (by rw [hgr.2]; exact hlp)
                  unfold bell; omega
                have h48 : 48 ≤ (g.getD p 0).toNat := by have := hgr.1.low (i := p) (by rw [hgr.2]; exact hlp); omega
                have g7 := hz7.sq.facts
                have b7 := hz7.sq.at1 0 (i := p + 1) (by omega)
                rw [partV_get R p (by omega)] at b7
                have hat : ∀ w, Fn 62 [S g, .int .i64 (p + 1 : Nat)] w (fun v _ => v = .int .i64 (bell g p + 1 : Nat)) := fun w => by
                  have := sl1At_ok g (p + 1) ⟨by omega, by rw [hgr.2]; omega⟩ h48 (by rw [hgr.2]; omega) w
                  rw [Nat.add_sub_cancel, hbI] at this
                  exact this
                have hPb := hPp.le (bell g p) hbl
                have hPq := hPp.le p hlp
                have hmin : min (((R.getD p 0 : Nat) : Int) + 1) (((R.getD (bell g p) 0 : Nat) : Int) + 1) = ((min (R.getD p 0) (R.getD (bell g p) 0) : Nat) : Int) + 1 := by omega
                simp only [↓vsd, vsn, gW, qd, qv, ev, pick, argE, zipE, ne_eq, eq_self, forall_const, implies_true, if_true, if_false, reduceIte, reduceCtorEq, Nat.reduceEqDiff, Nat.reduceAdd, Nat.reduceLT, ↓us_sOrbitsOf, r_sOrbitsOf, hlpI, g7, b7]
                refine ⟨⟨by omega, by omega⟩, m_call (hat _) ?_⟩
                rintro _ w8 hx8 rfl
                have hx8 : Ext w7 w8 := by first | exact hx8 | exact ud hx8 | exact ud (ud hx8)
                have hz8 := hz7.ext hx8
                have g8 := hz8.sq.facts
                have b8 := hz8.sq.at1 0 (i := p + 1) (by omega)
                rw [partV_get R p (by omega)] at b8
                have a8 := hz8.sq.at1 0 (i := bell g p + 1) (by omega)
                rw [partV_get R (bell g p) (by omega)] at a8
                have a7 := hz7.sq.at1 0 (i := bell g p + 1) (by omega)
                rw [partV_get R (bell g p) (by omega)] at a7
                simp only [↓vsd, vsn, gW, qd, qv, ev, pick, argE, zipE, ne_eq, eq_self, forall_const, implies_true, if_true, if_false, reduceIte, reduceCtorEq, Nat.reduceEqDiff, Nat.reduceAdd, Nat.reduceLT, ↓us_sOrbitsOf, r_sOrbitsOf, g8, b8, a8, a7]
                refine ⟨⟨by omega, by omega⟩, m_call (sl1Least_oko _ _ _) ?_⟩
                rintro _ w9 hx9 rfl
                have hx9 : Ext w8 w9 := by first | exact hx9 | exact ud hx9 | exact ud (ud hx9)
                rw [hmin]
                have hz9 := hz8.ext hx9
                have hx79 := hx8.trans hx9
                simp only [↓vsd, vsn, gW, qd, qv, ev, pick, argE, zipE, ne_eq, eq_self, forall_const, implies_true, if_true, if_false, reduceIte, reduceCtorEq, Nat.reduceEqDiff, Nat.reduceAdd, Nat.reduceLT, ↓us_sOrbitsOf, r_sOrbitsOf, hz9.sq.facts]
                refine ⟨⟨by omega, by omega⟩, m_set1 (p + 1) (((min (R.getD p 0) (R.getD (bell g p) 0) : Nat) : Int) + 1) hz9 rfl (by omega) rfl fI_one ?_⟩
                rintro w10 hz10 hg10 _
                have hx10 := hz9.grown (hx7.trans hx79) (Nat.le_refl _) hg10
                rw [partV_set] at hz10
                have hl10 := partV_len (R.set p (min (R.getD p 0) (R.getD (bell g p) 0)))
                rw [List.length_set] at hl10
                simp only [↓vsd, vsn, gW, qd, qv, ev, pick, argE, zipE, ne_eq, eq_self, forall_const, implies_true, if_true, if_false, reduceIte, reduceCtorEq, Nat.reduceEqDiff, Nat.reduceAdd, Nat.reduceLT, ↓us_sOrbitsOf, r_sOrbitsOf]
                refine m_call (hat _) ?_
                rintro _ w11 hx11 rfl
                have hx11 : Ext w10 w11 := by first | exact hx11 | exact ud hx11 | exact ud (ud hx11)
                have hz11 := hz10.ext hx11
                simp only [↓vsd, vsn, gW, qd, qv, ev, pick, argE, zipE, ne_eq, eq_self, forall_const, implies_true, if_true, if_false, reduceIte, reduceCtorEq, Nat.reduceEqDiff, Nat.reduceAdd, Nat.reduceLT, ↓us_sOrbitsOf, r_sOrbitsOf, hz11.sq.facts]
                refine ⟨⟨by omega, by omega⟩, m_set1 (bell g p + 1) (((min (R.getD p 0) (R.getD (bell g p) 0) : Nat) : Int) + 1) hz11 rfl (by omega) rfl fI_one ?_⟩
                rintro w12 hz12 hg12 _
                have hx12' := hz11.grown (hx10.trans hx11) (Nat.le_refl _) hg12
                rw [partV_set] at hz12
                have e1 : ((p + 1 : Nat) : Int) + 1 = ((p + 1 + 1 : Nat) : Int) := by omega
                simp only [↓vsd, vsn, gW, qd, qv, ev, pick, argE, zipE, ne_eq, eq_self, forall_const, implies_true, if_true, if_false, reduceIte, reduceCtorEq, Nat.reduceEqDiff, Nat.reduceAdd, Nat.reduceLT, ↓us_sOrbitsOf, r_sOrbitsOf, e1]
                exact ⟨inR_i64 (by omega), UpTo.next hlp ⟨rfl, hss ▸ hz12, hx12'⟩⟩
              · obtain rfl : p = n := by omega
                have hlpI : ¬ ((p + 1 : Nat) : Int) ≤ (p : Int) := by omega
                simp only [↓vsd, vsn, gW, qd, qv, ev, pick, argE, zipE, ne_eq, eq_self, forall_const, implies_true, if_true, if_false, reduceIte, reduceCtorEq, Nat.reduceEqDiff, Nat.reduceAdd, Nat.reduceLT, ↓us_sOrbitsOf, r_sOrbitsOf, hlpI]
                exact ⟨inR_i64 (by omega), UpTo.next hli ⟨rfl, hsn ▸ hR ▸ hz7, hx7⟩⟩
            · obtain rfl : i = l.length := by omega
              have hliI : ¬ ((l.length : Nat) : Int) < l.length := by omega
              rw [List.take_length] at hz6
              simp only [↓vsd, vsn, gW, qd, qv, ev, pick, argE, zipE, ne_eq, eq_self, forall_const, implies_true, if_true, if_false, reduceIte, reduceCtorEq, Nat.reduceEqDiff, Nat.reduceAdd, Nat.reduceLT, ↓us_sOrbitsOf, r_sOrbitsOf, hliI]
              exact ⟨inR_i64 (by omega), UpTo.next hlk ⟨rfl, hz6, hx6⟩⟩
          · obtain rfl : k = n := by omega
            have hlkI : ¬ (k : Int) < (k : Int) := by omega
            simp only [↓vsd, vsn, gW, qd, qv, ev, pick, argE, zipE, ne_eq, eq_self, forall_const, implies_true, if_true, if_false, reduceIte, reduceCtorEq, Nat.reduceEqDiff, Nat.reduceAdd, Nat.reduceLT, ↓us_sOrbitsOf, r_sOrbitsOf, hlkI]
            have hF : labK l k k = labF l k := rfl
            rw [hF] at hz5 hP
            generalize hPF : labF l k = P at *
            have hPl := hP.len
            have hPL := partV_len P
            refine m_upto k (fun c vs w' => ∃ y, vs = [y, .int .i64 (c + 1 : Nat)] ∧ NestU fI 3 31 w5.heap.size w'.heap.size w' y (orbK P k c) ∧ (orbK P k c).length ≤ c ∧ Ext w5 w') ⟨_, rfl, NestU.nil, by simp [orbK], Ext.refl _⟩ ?_
            rintro c vs w6 hc ⟨y, rfl, hN6, hcl, hx6⟩
            have hz6 := hz5.ext hx6
            have hx06 := hx5.trans hx6
            by_cases hlc : c < k
            · have hlcI : ((c + 1 : Nat) : Int) ≤ (k : Int) := by omega
              have hos := orbK_succ P k c
              simp only [↓vsd, vsn, gW, qd, qv, ev, pick, argE, zipE, ne_eq, eq_self, forall_const, implies_true, if_true, if_false, reduceIte, reduceCtorEq, Nat.reduceEqDiff, Nat.reduceAdd, Nat.reduceLT, ↓us_sOrbitsOf, r_sOrbitsOf, hlcI]
              refine m_upto k (fun p vs w' => ∃ x, vs = [x, .int .i64 (p + 1 : Nat)] ∧ Own fI 1 3 w6.heap.size w' x (clsT P c p) ∧ (clsT P c p).length ≤ p ∧ Ext w6 w') ⟨_, rfl, (Own.nil fI_len).to rfl, by simp [clsT], Ext.refl _⟩ ?_
              rintro p vs w7 hp ⟨x, rfl, hx7o, hpl, hx7⟩
              have hz7 := hz6.ext hx7
              by_cases hlp : p < k
              · have hlpI : ((p + 1 : Nat) : Int) ≤ (k : Int) := by omega
                have b7 := hz7.sq.at1 0 (i := p + 1) (by omega)
                rw [partV_get P p (by omega)] at b7
                have hts := clsT_succ P c p
                have e1 : ((p + 1 : Nat) : Int) + 1 = ((p + 1 + 1 : Nat) : Int) := by omega
                by_cases he : P.getD p 0 = c
                · have heI : ((P.getD p 0 : Nat) : Int) + 1 = ((c + 1 : Nat) : Int) := by omega
                  rw [if_pos he] at hts
                  simp only [↓vsd, vsn, gW, qd, qv, ev, pick, argE, zipE, ne_eq, eq_self, forall_const, implies_true, if_true, if_false, reduceIte, reduceCtorEq, Nat.reduceEqDiff, Nat.reduceAdd, Nat.reduceLT, ↓us_sOrbitsOf, r_sOrbitsOf, hlpI, hz7.sq.facts, b7, heI, e1]
                  refine ⟨⟨by omega, by omega⟩, m_bsl (fun p hp => by simp only [List.mem_cons, List.not_mem_nil, or_false] at hp; rw [hp]; rfl) ?_⟩
                  rintro b8 w8 hb8 hblk8 hx8 hs8
                  have hx8 : Ext w7 w8 := by first | exact hx8 | exact ud hx8 | exact ud (ud hx8)
                  have hx68 := hx7.trans hx8
                  have ep : ((p + 1 : Nat) : Int) = (p : Int) + 1 := by omega
                  simp only [↓vsd, vsn, gW, qd, qv, ev, pick, argE, zipE, ne_eq, eq_self, forall_const, implies_true, if_true, if_false, reduceIte, reduceCtorEq, Nat.reduceEqDiff, Nat.reduceAdd, Nat.reduceLT, ↓us_sOrbitsOf, r_sOrbitsOf]
                  refine m_app (hx7o.ext hx8) (Sq.one (f := fI) (a := (p : Int) + 1) fI_len hblk8 (by rw [ep]; rfl)) fI_one (by decide) (by rw [List.length_singleton]; omega) (by decide) hx68.size ?_
                  rintro x9 w9 ho9 hg9
                  have hx9 := (hx7o.ext hx8).grown hx68 (Nat.le_refl _) hg9
                  simp only [↓vsd, vsn, gW, qd, qv, ev, pick, argE, zipE, ne_eq, eq_self, forall_const, implies_true, if_true, if_false, reduceIte, reduceCtorEq, Nat.reduceEqDiff, Nat.reduceAdd, Nat.reduceLT, ↓us_sOrbitsOf, r_sOrbitsOf, e1]
                  exact ⟨inR_i64 (by omega), UpTo.next hlp ⟨x9, rfl, ho9.to hts.symm, by rw [hts, List.length_append, List.length_singleton]; omega, hx9⟩⟩
                · have heI : ¬ ((P.getD p 0 : Nat) : Int) + 1 = ((c + 1 : Nat) : Int) := by omega
                  rw [if_neg he, List.append_nil] at hts
                  simp only [↓vsd, vsn, gW, qd, qv, ev, pick, argE, zipE, ne_eq, eq_self, forall_const, implies_true, if_true, if_false, reduceIte, reduceCtorEq, Nat.reduceEqDiff, Nat.reduceAdd, Nat.reduceLT, ↓us_sOrbitsOf, r_sOrbitsOf, hlpI, hz7.sq.facts, b7, heI, e1]
                  exact ⟨⟨by omega, by omega⟩, inR_i64 (by omega), UpTo.next hlp ⟨x, rfl, (hx7o.ext (by first | exact Ext.refl _ | exact dr (Ext.refl _))).to hts.symm, by rw [hts]; omega, by first | exact hx7 | exact dr hx7⟩⟩
              · obtain rfl : p = k := by omega
                have hlpI : ¬ ((p + 1 : Nat) : Int) ≤ (p : Int) := by omega
                have e1 : ((c + 1 : Nat) : Int) + 1 = ((c + 1 + 1 : Nat) : Int) := by omega
                have hTL : clsT P c p = clsL P p c := rfl
                have hTl : (clsT P c p).length = (clsN P p c).length := by rw [hTL, clsL, List.length_map]
                have hN7 := hN6.ext hx7
                by_cases h0 : 0 < (clsT P c p).length
                · have h0I : (0 : Int) < (clsT P c p).length := by omega
                  have hne : clsN P p c ≠ [] := fun e => by rw [hTl, e] at h0; simp at h0
                  rw [if_neg hne, ← hTL] at hos
                  obtain ⟨sx, rfl⟩ := hx7o.sq.sv
                  simp only [↓vsd, vsn, gW, qd, qv, ev, pick, argE, zipE, ne_eq, eq_self, forall_const, implies_true, if_true, if_false, reduceIte, reduceCtorEq, Nat.reduceEqDiff, Nat.reduceAdd, Nat.reduceLT, ↓us_sOrbitsOf, r_sOrbitsOf, hlpI, hx7o.sq.facts, h0I]
                  refine m_bsl (one_el rfl) ?_
                  rintro b8 w8 hb8 hblk8 hx8 hs8
                  have hx8 : Ext w7 w8 := by first | exact hx8 | exact ud hx8 | exact ud (ud hx8)
                  have hx68 := hx7.trans hx8
                  simp only [↓vsd, vsn, gW, qd, qv, ev, pick, argE, zipE, ne_eq, eq_self, forall_const, implies_true, if_true, if_false, reduceIte, reduceCtorEq, Nat.reduceEqDiff, Nat.reduceAdd, Nat.reduceLT, ↓us_sOrbitsOf, r_sOrbitsOf]
                  refine m_pushU (hN7.ext hx8) (Sq.one (a := sx) fSV_len hblk8 rfl) ((hx7o.ext hx8).mono hx6.size) (fun c hc => (hx7o.bound c hc).1) hx68.size (by omega) rfl (by decide) (hx6.trans hx68).size ?_
                  rintro y9 w9 hN9 hg9
                  have hx9 := ext_grow (hx6.trans hx68) hg9 (fun c hc => ((hN7.ext hx8).bound c hc).1)
                  simp only [↓vsd, vsn, gW, qd, qv, ev, pick, argE, zipE, ne_eq, eq_self, forall_const, implies_true, if_true, if_false, reduceIte, reduceCtorEq, Nat.reduceEqDiff, Nat.reduceAdd, Nat.reduceLT, ↓us_sOrbitsOf, r_sOrbitsOf, e1]
                  exact ⟨inR_i64 (by omega), UpTo.next hlc ⟨y9, rfl, hN9.to hos.symm, by rw [hos, List.length_append, List.length_singleton]; omega, hx9⟩⟩
                · have h0I : ¬ (0 : Int) < (clsT P c p).length := by omega
                  have he0 : clsN P p c = [] := List.length_eq_zero_iff.1 (by omega)
                  rw [if_pos he0, List.append_nil] at hos
                  simp only [↓vsd, vsn, gW, qd, qv, ev, pick, argE, zipE, ne_eq, eq_self, forall_const, implies_true, if_true, if_false, reduceIte, reduceCtorEq, Nat.reduceEqDiff, Nat.reduceAdd, Nat.reduceLT, ↓us_sOrbitsOf, r_sOrbitsOf, hlpI, hx7o.sq.facts, h0I, e1]
                  exact ⟨inR_i64 (by omega), UpTo.next hlc ⟨y, rfl, (hN7.mono (Nat.le_refl _) hx7.size).to hos.symm, by rw [hos]; omega, hx6.trans hx7⟩⟩
            · obtain rfl : c = k := by omega
              have hlcI : ¬ ((c + 1 : Nat) : Int) ≤ (c : Int) := by omega
              simp only [↓vsd, vsn, gW, qd, qv, ev, pick, argE, zipE, ne_eq, eq_self, forall_const, implies_true, if_true, if_false, reduceIte, reduceCtorEq, Nat.reduceEqDiff, Nat.reduceAdd, Nat.reduceLT, ↓us_sOrbitsOf, r_sOrbitsOf, hlcI]
              exact ⟨hx06, y, by rw [decide_eq_true hok], by rw [orbV, if_pos hok, Int.toNat_natCast, hPF]; exact hN6.sq⟩
    · simp only [↓vsd, vsn, gW, qd, qv, ev, pick, argE, zipE, ne_eq, eq_self, forall_const, implies_true, if_true, if_false, reduceIte, reduceCtorEq, Nat.reduceEqDiff, Nat.reduceAdd, Nat.reduceLT, ↓us_sOrbitsOf, r_sOrbitsOf, hr]
      exact ⟨hx12, hno (fun hh => hr hh.2.1) _⟩
  · have hnd : (decide ((3 : Int) ≤ n) && decide (n ≤ 8)) = false := by
      rw [Bool.and_eq_false_iff, decide_eq_false_iff_not, decide_eq_false_iff_not]; omega
    simp only [↓vsd, vsn, gW, qd, qv, ev, pick, argE, zipE, ne_eq, eq_self, forall_const, implies_true, if_true, if_false, reduceIte, reduceCtorEq, Nat.reduceEqDiff, Nat.reduceAdd, Nat.reduceLT, ↓us_sOrbitsOf, r_sOrbitsOf, hnd]
    exact ⟨hx1, hno (fun hh => hn hh.1) _⟩
end Go.Proofs.Ythopbkemkfjebaa
