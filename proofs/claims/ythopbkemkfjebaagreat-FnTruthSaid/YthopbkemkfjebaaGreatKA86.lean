/-
  The first clash of both sides.
  Conditions: none.
-/
import Derived.Test.YthopbkemkfjebaaGreatKA36
import Derived.Test.YthopbkemkfjebaaGreatKA85
set_option linter.unusedSimpArgs false
set_option linter.unusedVariables false
set_option linter.defProp false
namespace Go.Proofs.YthopbkemkfjebaaGreat
open Go Go.RowKit
section
variable (P : Program) (k : KT) (e : Env) (w : World)
abbrev b139_1 : X := (.seq (.reg [2] (.c (.q 3 [] (.mv (.t 0))) (.c (.q 4 [] (.mv (.t 0))) (.c (.q 5 [] (.bin .neq (.t 3) (.t 4))) (.c (.q 2 [] (.mv (.t 5))) .nil))))) .ret)
def t139_1 := b139_1
theorem u139_1 : vcK P t139_1 k e w = vcK P b139_1 k e w := rfl
abbrev b139_0 : X := (.seq (.reg [0] (.c (.q 2 [] (.mv (.c (.bool false)))) .nil)) t139_1)
def x_xcmp_isNaN_int := b139_0
theorem u139_0 : vcK P x_xcmp_isNaN_int k e w = vcK P b139_0 k e w := rfl
def r_xcmp_isNaN_int : List XO := [(.mv (.t 2))]
theorem c_xcmp_isNaN_int : convF Tryz.prog [56, 58, 59, 60, 61, 62, 72, 73, 77, 97, 98, 109, 110, 111, 112, 115, 128, 136] Tryz.f139 [([0], []), ([2], [])] = some (x_xcmp_isNaN_int, r_xcmp_isNaN_int) := by kernel_rfl
def us_xcmp_isNaN_int :=  (aI @u139_0 @u139_1)
abbrev b105_1 : X := (.cond (.t 12) (.seq (.reg [4] (.c (.q 4 [] (.mv (.c (.int .i64 0)))) .nil)) .ret) .skip)
def t105_1 := b105_1
theorem u105_1 : vcK P t105_1 k e w = vcK P b105_1 k e w := rfl
abbrev b105_2 : X := (.seq (.reg [4] (.c (.q 4 [] (.mv (.c (.int .i64 (-1))))) .nil)) .ret)
def t105_2 := b105_2
theorem u105_2 : vcK P t105_2 k e w = vcK P b105_2 k e w := rfl
abbrev b105_3 : X := (.cond (.t 11) (.seq (.seq (.reg [12] (.c (.q 12 [] (.mv (.t 6))) .nil)) t105_1) t105_2) .skip)
def t105_3 := b105_3
theorem u105_3 : vcK P t105_3 k e w = vcK P b105_3 k e w := rfl
abbrev b105_4 : X := (.cond (.t 13) (.seq (.reg [4] (.c (.q 4 [] (.mv (.c (.int .i64 1)))) .nil)) .ret) .skip)
def t105_4 := b105_4
theorem u105_4 : vcK P t105_4 k e w = vcK P b105_4 k e w := rfl
abbrev b105_5 : X := (.cond (.t 16) (.seq (.reg [4] (.c (.q 4 [] (.mv (.c (.int .i64 (-1))))) .nil)) .ret) .skip)
def t105_5 := b105_5
theorem u105_5 : vcK P t105_5 k e w = vcK P b105_5 k e w := rfl
abbrev b105_6 : X := (.cond (.t 19) (.seq (.reg [4] (.c (.q 4 [] (.mv (.c (.int .i64 1)))) .nil)) .ret) .skip)
def t105_6 := b105_6
theorem u105_6 : vcK P t105_6 k e w = vcK P b105_6 k e w := rfl
abbrev b105_7 : X := (.seq (.reg [4] (.c (.q 4 [] (.mv (.c (.int .i64 0)))) .nil)) .ret)
def t105_7 := b105_7
theorem u105_7 : vcK P t105_7 k e w = vcK P b105_7 k e w := rfl
abbrev b105_8 : X := (.seq (.seq (.reg [19] (.c (.q 17 [] (.mv (.t 0))) (.c (.q 18 [] (.mv (.t 1))) (.c (.q 19 [] (.bin .gtr (.t 17) (.t 18))) .nil)))) t105_6) t105_7)
def t105_8 := b105_8
theorem u105_8 : vcK P t105_8 k e w = vcK P b105_8 k e w := rfl
abbrev b105_9 : X := (.seq (.seq (.reg [0, 1, 16] (.c (.q 14 [] (.mv (.t 0))) (.c (.q 15 [] (.mv (.t 1))) (.c (.q 16 [] (.bin .lss (.t 14) (.t 15))) .nil)))) t105_5) t105_8)
def t105_9 := b105_9
theorem u105_9 : vcK P t105_9 k e w = vcK P b105_9 k e w := rfl
abbrev b105_10 : X := (.seq (.seq (.reg [0, 1, 13] (.c (.q 13 [] (.mv (.t 6))) .nil)) t105_4) t105_9)
def t105_10 := b105_10
theorem u105_10 : vcK P t105_10 k e w = vcK P b105_10 k e w := rfl
abbrev b105_11 : X := (.seq (.seq (.reg [0, 1, 6, 11] (.c (.q 11 [] (.mv (.t 5))) .nil)) t105_3) t105_10)
def t105_11 := b105_11
theorem u105_11 : vcK P t105_11 k e w = vcK P b105_11 k e w := rfl
abbrev b105_12 : X := (.seq (.reg [0, 1, 5, 6] (.c (.q 9 [] (.mv (.t 1))) (.c (.e (some 10) [] (.call false 139 [(.t 9)])) (.c (.q 6 [] (.mv (.t 10))) .nil)))) t105_11)
def t105_12 := b105_12
theorem u105_12 : vcK P t105_12 k e w = vcK P b105_12 k e w := rfl
abbrev b105_13 : X := (.seq (.reg [0, 1, 5] (.c (.q 7 [] (.mv (.t 0))) (.c (.e (some 8) [] (.call false 139 [(.t 7)])) (.c (.q 5 [] (.mv (.t 8))) .nil)))) t105_12)
def t105_13 := b105_13
theorem u105_13 : vcK P t105_13 k e w = vcK P b105_13 k e w := rfl
abbrev b105_0 : X := (.seq (.reg [0, 1] (.c (.q 4 [] (.mv (.c (.int .i64 0)))) .nil)) t105_13)
def x_xcmp_Compare_int := b105_0
theorem u105_0 : vcK P x_xcmp_Compare_int k e w = vcK P b105_0 k e w := rfl
def r_xcmp_Compare_int : List XO := [(.mv (.t 4))]
theorem c_xcmp_Compare_int : convF Tryz.prog [56, 58, 59, 60, 61, 62, 72, 73, 77, 97, 98, 109, 110, 111, 112, 115, 128, 136] Tryz.f105 [([0, 1], []), ([0, 1, 5], []), ([0, 1, 5, 6], []), ([0, 1, 6, 11], []), ([12], []), ([4], []), ([4], []), ([0, 1, 13], []), ([4], []), ([0, 1, 16], []), ([4], []), ([19], []), ([4], []), ([4], [])] = some (x_xcmp_Compare_int, r_xcmp_Compare_int) := by kernel_rfl
def us_xcmp_Compare_int :=  (aI (aI (aI @u105_0 (aI @u105_1 @u105_2)) (aI (aI @u105_3 @u105_4) (aI @u105_5 @u105_6))) (aI (aI @u105_7 (aI @u105_8 @u105_9)) (aI (aI @u105_10 @u105_11) (aI @u105_12 @u105_13))))
abbrev b53_1 : X := (.cond (.t 19) (.seq (.reg [4] (.c (.q 4 [] (.mv (.c (.int .i64 1)))) .nil)) .ret) .skip)
def t53_1 := b53_1
theorem u53_1 : vcK P t53_1 k e w = vcK P b53_1 k e w := rfl
abbrev b53_2 : X := (.cond (.t 28) (.seq (.reg [4] (.c (.q 29 [] (.mv (.t 8))) (.c (.q 4 [] (.mv (.t 29))) .nil))) .ret) .skip)
def t53_2 := b53_2
theorem u53_2 : vcK P t53_2 k e w = vcK P b53_2 k e w := rfl
abbrev b53_3 : X := (.seq (.reg [0, 1, 8, 9, 10, 11, 28] (.c (.q 27 [] (.mv (.t 8))) (.c (.q 28 [] (.bin .neq (.t 27) (.c (.int .i64 0)))) .nil))) t53_2)
def t53_3 := b53_3
theorem u53_3 : vcK P t53_3 k e w = vcK P b53_3 k e w := rfl
abbrev b53_4 : X := (.seq (.reg [0, 1, 8, 9, 10, 11] (.c (.q 24 [] (.mv (.t 6))) (.c (.q 25 [] (.mv (.t 7))) (.c (.e (some 26) [] (.call false 105 [(.t 24), (.t 25)])) (.c (.q 8 [] (.mv (.t 26))) .nil))))) t53_3)
def t53_4 := b53_4
theorem u53_4 : vcK P t53_4 k e w = vcK P b53_4 k e w := rfl
abbrev b53_5 : X := (.seq (.reg [0, 1, 6, 7, 9, 10, 11] (.c (.q 20 [] (.mv (.t 1))) (.c (.q 21 [] (.mv (.t 5))) (.c (.q 22 [] (.ia 1 (.t 20) (.t 21))) (.c (.q 23 [] (.ld (.t 22))) (.c (.q 7 [] (.mv (.t 23))) .nil)))))) t53_4)
def t53_5 := b53_5
theorem u53_5 : vcK P t53_5 k e w = vcK P b53_5 k e w := rfl
abbrev b53_6 : X := (.seq (.seq (.reg [0, 1, 5, 6, 9, 10, 11, 19] (.c (.q 16 [] (.mv (.t 5))) (.c (.q 17 [] (.mv (.t 1))) (.c (.q 18 [] (.lens (.t 17))) (.c (.q 19 [] (.bin .geq (.t 16) (.t 18))) .nil))))) t53_1) t53_5)
def t53_6 := b53_6
theorem u53_6 : vcK P t53_6 k e w = vcK P b53_6 k e w := rfl
abbrev b53_7 : X := (.reg [0, 1, 9, 10, 11] (.c (.q 30 [] (.bin .add (.t 11) (.c (.int .i64 1)))) (.c (.q 11 [] (.mv (.t 30))) .nil)))
def t53_7 := b53_7
theorem u53_7 : vcK P t53_7 k e w = vcK P b53_7 k e w := rfl
abbrev b53_8 : X := (.seq (.blk 1 (.seq (.reg [0, 1, 5, 6, 9, 10, 11] (.c (.q 13 [] (.mv (.t 11))) (.c (.q 14 [] (.ia 1 (.t 9) (.t 11))) (.c (.q 15 [] (.ld (.t 14))) (.c (.q 5 [] (.mv (.t 13))) (.c (.q 6 [] (.mv (.t 15))) .nil)))))) t53_6)) t53_7)
def t53_8 := b53_8
theorem u53_8 : vcK P t53_8 k e w = vcK P b53_8 k e w := rfl
abbrev b53_9 : X := (.seq (.cond (.t 12) .skip (.exit 0)) t53_8)
def t53_9 := b53_9
theorem u53_9 : vcK P t53_9 k e w = vcK P b53_9 k e w := rfl
abbrev b53_10 : X := (.seq (.reg [0, 1, 9, 10, 11, 12] (.c (.q 12 [] (.bin .lss (.t 11) (.t 10))) .nil)) t53_9)
def t53_10 := b53_10
theorem u53_10 : vcK P t53_10 k e w = vcK P b53_10 k e w := rfl
abbrev b53_11 : X := (.blk 0 (.loop [11] [0, 1, 9, 10] t53_10))
def t53_11 := b53_11
theorem u53_11 : vcK P t53_11 k e w = vcK P b53_11 k e w := rfl
abbrev b53_12 : X := (.cond (.t 35) (.seq (.reg [4] (.c (.q 4 [] (.mv (.c (.int .i64 (-1))))) .nil)) .ret) .skip)
def t53_12 := b53_12
theorem u53_12 : vcK P t53_12 k e w = vcK P b53_12 k e w := rfl
abbrev b53_13 : X := (.seq (.reg [4] (.c (.q 4 [] (.mv (.c (.int .i64 0)))) .nil)) .ret)
def t53_13 := b53_13
theorem u53_13 : vcK P t53_13 k e w = vcK P b53_13 k e w := rfl
abbrev b53_14 : X := (.seq (.seq (.reg [35] (.c (.q 31 [] (.mv (.t 0))) (.c (.q 32 [] (.lens (.t 31))) (.c (.q 33 [] (.mv (.t 1))) (.c (.q 34 [] (.lens (.t 33))) (.c (.q 35 [] (.bin .lss (.t 32) (.t 34))) .nil)))))) t53_12) t53_13)
def t53_14 := b53_14
theorem u53_14 : vcK P t53_14 k e w = vcK P b53_14 k e w := rfl
abbrev b53_15 : X := (.seq (.seq (.reg [0, 1, 9, 10, 11] (.c (.q 9 [] (.mv (.t 0))) (.c (.q 10 [] (.lens (.t 9))) (.c (.q 11 [] (.mv (.c (.int .i64 0)))) .nil)))) t53_11) t53_14)
def t53_15 := b53_15
theorem u53_15 : vcK P t53_15 k e w = vcK P b53_15 k e w := rfl
abbrev b53_0 : X := (.seq (.reg [0, 1] (.c (.q 4 [] (.mv (.c (.int .i64 0)))) .nil)) t53_15)
def x_xslices_Compare_int_int := b53_0
theorem u53_0 : vcK P x_xslices_Compare_int_int k e w = vcK P b53_0 k e w := rfl
def r_xslices_Compare_int_int : List XO := [(.mv (.t 4))]
theorem c_xslices_Compare_int_int : convF Tryz.prog [56, 58, 59, 60, 61, 62, 72, 73, 77, 97, 98, 109, 110, 111, 112, 115, 128, 136] Tryz.f53 [([0, 1], []), ([0, 1, 9, 10, 11], []), ([11], [0, 1, 9, 10]), ([0, 1, 9, 10, 11, 12], []), ([0, 1, 5, 6, 9, 10, 11], []), ([0, 1, 5, 6, 9, 10, 11, 19], []), ([4], []), ([0, 1, 6, 7, 9, 10, 11], []), ([0, 1, 8, 9, 10, 11], []), ([0, 1, 8, 9, 10, 11, 28], []), ([4], []), ([0, 1, 9, 10, 11], []), ([35], []), ([4], []), ([4], [])] = some (x_xslices_Compare_int_int, r_xslices_Compare_int_int) := by kernel_rfl
def us_xslices_Compare_int_int :=  (aI (aI (aI (aI @u53_0 @u53_1) (aI @u53_2 @u53_3)) (aI (aI @u53_4 @u53_5) (aI @u53_6 @u53_7))) (aI (aI (aI @u53_8 @u53_9) (aI @u53_10 @u53_11)) (aI (aI @u53_12 @u53_13) (aI @u53_14 @u53_15))))
abbrev b52_1 : X := (.seq (.drw [4] (.c (.q 5 [] (.mv (.t 0))) (.c (.q 6 [] (.ia 1 (.t 5) (.c (.int .i64 1)))) (.c (.q 7 [] (.ld (.t 6))) (.c (.q 8 [] (.mv (.t 0))) (.c (.q 9 [] (.ia 1 (.t 8) (.c (.int .i64 0)))) (.c (.q 10 [] (.ld (.t 9))) (.c (.q 12 [] (.mv (.t 1))) (.c (.q 13 [] (.ia 1 (.t 12) (.c (.int .i64 1)))) (.c (.q 14 [] (.ld (.t 13))) (.c (.q 15 [] (.mv (.t 1))) (.c (.q 16 [] (.ia 1 (.t 15) (.c (.int .i64 0)))) (.c (.q 17 [] (.ld (.t 16))) (.alt (.c (.e (some 11) [] (.bsl 3 1 [(.t 7), (.t 10)])) (.c (.e (some 18) [] (.bsl 3 1 [(.t 14), (.t 17)])) (.c (.e (some 19) [] (.call false 53 [(.t 11), (.t 18)])) (.c (.q 4 [] (.mv (.t 19))) .nil)))) (.c (.e (some 18) [] (.bsl 3 1 [(.t 14), (.t 17)])) (.c (.e (some 11) [] (.bsl 3 1 [(.t 7), (.t 10)])) (.c (.e (some 19) [] (.call false 53 [(.t 11), (.t 18)])) (.c (.q 4 [] (.mv (.t 19))) .nil)))))))))))))))))) .ret)
def t52_1 := b52_1
theorem u52_1 : vcK P t52_1 k e w = vcK P b52_1 k e w := rfl
abbrev b52_0 : X := (.seq (.reg [0, 1] (.c (.q 4 [] (.mv (.c (.int .i64 0)))) .nil)) t52_1)
def x_iFirstClashS1 := b52_0
theorem u52_0 : vcK P x_iFirstClashS1 k e w = vcK P b52_0 k e w := rfl
def r_iFirstClashS1 : List XO := [(.mv (.t 4))]
theorem c_iFirstClashS1 : convF Tryz.prog [56, 58, 59, 60, 61, 62, 72, 73, 77, 97, 98, 109, 110, 111, 112, 115, 128, 136] Tryz.f52 [([0, 1], []), ([4], [])] = some (x_iFirstClashS1, r_iFirstClashS1) := by kernel_rfl
def us_iFirstClashS1 :=  (aI @u52_0 @u52_1)
abbrev b51_1 : X := (.cond (.t 9) .dead .skip)
def t51_1 := b51_1
theorem u51_1 : vcK P t51_1 k e w = vcK P b51_1 k e w := rfl
abbrev b51_2 : X := (.cond (.t 17) .skip (.exit 0))
def t51_2 := b51_2
theorem u51_2 : vcK P t51_2 k e w = vcK P b51_2 k e w := rfl
abbrev b51_3 : X := (.cond (.t 27) (.reg [0, 1, 5, 6] (.c (.q 28 [] (.mv (.t 0))) (.c (.q 29 [] (.mv (.t 6))) (.c (.q 30 [] (.ia 1 (.t 28) (.t 29))) (.c (.q 31 [] (.ld (.t 30))) (.c (.q 5 [] (.mv (.t 31))) .nil)))))) .skip)
def t51_3 := b51_3
theorem u51_3 : vcK P t51_3 k e w = vcK P b51_3 k e w := rfl
abbrev b51_4 : X := (.reg [0, 1, 5, 6] (.c (.q 18 [] (.mv (.t 6))) (.c (.q 19 [] (.bin .add (.t 18) (.c (.int .i64 1)))) (.c (.q 6 [] (.mv (.t 19))) .nil))))
def t51_4 := b51_4
theorem u51_4 : vcK P t51_4 k e w = vcK P b51_4 k e w := rfl
abbrev b51_5 : X := (.seq (.blk 1 (.seq (.reg [0, 1, 5, 6, 27] (.c (.q 20 [] (.mv (.t 1))) (.c (.q 21 [] (.mv (.t 0))) (.c (.q 22 [] (.mv (.t 6))) (.c (.q 23 [] (.ia 1 (.t 21) (.t 22))) (.c (.q 24 [] (.ld (.t 23))) (.c (.q 25 [] (.mv (.t 5))) (.c (.e (some 26) [] (.callv (.t 20) [(.t 24), (.t 25)])) (.c (.q 27 [] (.bin .lss (.t 26) (.c (.int .i64 0)))) .nil))))))))) t51_3)) t51_4)
def t51_5 := b51_5
theorem u51_5 : vcK P t51_5 k e w = vcK P b51_5 k e w := rfl
abbrev b51_6 : X := (.seq (.seq (.reg [0, 1, 5, 6, 17] (.c (.q 14 [] (.mv (.t 6))) (.c (.q 15 [] (.mv (.t 0))) (.c (.q 16 [] (.lens (.t 15))) (.c (.q 17 [] (.bin .lss (.t 14) (.t 16))) .nil))))) t51_2) t51_5)
def t51_6 := b51_6
theorem u51_6 : vcK P t51_6 k e w = vcK P b51_6 k e w := rfl
abbrev b51_7 : X := (.blk 0 (.loop [5, 6] [0, 1] t51_6))
def t51_7 := b51_7
theorem u51_7 : vcK P t51_7 k e w = vcK P b51_7 k e w := rfl
abbrev b51_8 : X := (.seq (.reg [4] (.c (.q 32 [] (.mv (.t 5))) (.c (.q 4 [] (.mv (.t 32))) .nil))) .ret)
def t51_8 := b51_8
theorem u51_8 : vcK P t51_8 k e w = vcK P b51_8 k e w := rfl
abbrev b51_9 : X := (.seq (.seq (.reg [0, 1, 5, 6] (.c (.q 6 [] (.mv (.c (.int .i64 1)))) .nil)) t51_7) t51_8)
def t51_9 := b51_9
theorem u51_9 : vcK P t51_9 k e w = vcK P b51_9 k e w := rfl
abbrev b51_10 : X := (.seq (.reg [0, 1, 5] (.c (.q 11 [] (.mv (.t 0))) (.c (.q 12 [] (.ia 1 (.t 11) (.c (.int .i64 0)))) (.c (.q 13 [] (.ld (.t 12))) (.c (.q 5 [] (.mv (.t 13))) .nil))))) t51_9)
def t51_10 := b51_10
theorem u51_10 : vcK P t51_10 k e w = vcK P b51_10 k e w := rfl
abbrev b51_11 : X := (.seq (.seq (.reg [0, 1, 9] (.c (.q 7 [] (.mv (.t 0))) (.c (.q 8 [] (.lens (.t 7))) (.c (.q 9 [] (.bin .lss (.t 8) (.c (.int .i64 1)))) .nil)))) t51_1) t51_10)
def t51_11 := b51_11
theorem u51_11 : vcK P t51_11 k e w = vcK P b51_11 k e w := rfl
abbrev b51_0 : X := (.seq (.reg [0, 1] (.c (.q 4 [] (.mv (.c (.slice none 0 0)))) .nil)) t51_11)
def x_xslices_MinFunc_int_int := b51_0
theorem u51_0 : vcK P x_xslices_MinFunc_int_int k e w = vcK P b51_0 k e w := rfl
def r_xslices_MinFunc_int_int : List XO := [(.mv (.t 4))]
theorem c_xslices_MinFunc_int_int : convF Tryz.prog [56, 58, 59, 60, 61, 62, 72, 73, 77, 97, 98, 109, 110, 111, 112, 115, 128, 136] Tryz.f51 [([0, 1], []), ([0, 1, 9], []), ([0, 1], []), ([0, 1, 5], []), ([0, 1, 5, 6], []), ([5, 6], [0, 1]), ([0, 1, 5, 6, 17], []), ([0, 1, 5, 6, 27], []), ([0, 1, 5, 6], []), ([0, 1, 5, 6], []), ([4], [])] = some (x_xslices_MinFunc_int_int, r_xslices_MinFunc_int_int) := by kernel_rfl
def us_xslices_MinFunc_int_int :=  (aI (aI (aI @u51_0 (aI @u51_1 @u51_2)) (aI @u51_3 (aI @u51_4 @u51_5))) (aI (aI @u51_6 (aI @u51_7 @u51_8)) (aI @u51_9 (aI @u51_10 @u51_11))))
abbrev b9_1 : X := (.cond (.t 13) (.seq (.reg [6, 7] (.c (.q 6 [] (.mv (.c (.slice none 0 0)))) (.c (.q 7 [] (.mv (.c (.bool false)))) .nil))) .ret) .skip)
def t9_1 := b9_1
theorem u9_1 : vcK P t9_1 k e w = vcK P b9_1 k e w := rfl
abbrev b9_2 : X := (.cond (.t 20) (.seq (.reg [6, 7] (.c (.q 6 [] (.mv (.c (.slice none 0 0)))) (.c (.q 7 [] (.mv (.c (.bool false)))) .nil))) .ret) .skip)
def t9_2 := b9_2
theorem u9_2 : vcK P t9_2 k e w = vcK P b9_2 k e w := rfl
abbrev b9_3 : X := (.seq (.reg [6, 7] (.c (.q 21 [] (.mv (.t 8))) (.c (.e (some 22) [] (.call false 51 [(.t 21), (.f 52)])) (.c (.q 6 [] (.mv (.t 22))) (.c (.q 7 [] (.mv (.c (.bool true)))) .nil))))) .ret)
def t9_3 := b9_3
theorem u9_3 : vcK P t9_3 k e w = vcK P b9_3 k e w := rfl
abbrev b9_4 : X := (.seq (.seq (.reg [8, 20] (.c (.q 18 [] (.mv (.t 8))) (.c (.q 19 [] (.lens (.t 18))) (.c (.q 20 [] (.bin .eql (.t 19) (.c (.int .i64 0)))) .nil)))) t9_2) t9_3)
def t9_4 := b9_4
theorem u9_4 : vcK P t9_4 k e w = vcK P b9_4 k e w := rfl
abbrev b9_5 : X := (.seq (.reg [8] (.c (.q 14 [] (.lda 3 (.t 3))) (.c (.q 15 [] (.lda 2 (.t 4))) (.c (.q 16 [] (.mv (.t 2))) (.c (.e (some 17) [] (.call false 50 [(.t 14), (.t 15), (.t 16)])) (.c (.q 8 [] (.mv (.t 17))) .nil)))))) t9_4)
def t9_5 := b9_5
theorem u9_5 : vcK P t9_5 k e w = vcK P b9_5 k e w := rfl
abbrev b9_6 : X := (.seq (.seq (.reg [2, 3, 4, 13] (.c (.q 9 [] (.lda 3 (.t 3))) (.c (.q 10 [] (.lda 2 (.t 4))) (.c (.q 11 [] (.mv (.t 2))) (.c (.e (some 12) [] (.call false 46 [(.t 9), (.t 10), (.t 11)])) (.c (.q 13 [] (.not (.t 12))) .nil)))))) t9_1) t9_5)
def t9_6 := b9_6
theorem u9_6 : vcK P t9_6 k e w = vcK P b9_6 k e w := rfl
abbrev b9_0 : X := (.seq (.reg [2, 3, 4] (.c (.e (some 3) [] (.box 25 (.t 0))) (.c (.e (some 4) [] (.box 27 (.t 1))) (.c (.q 6 [] (.mv (.c (.slice none 0 0)))) (.c (.q 7 [] (.mv (.c (.bool false)))) .nil))))) t9_6)
def x_iFirstClash := b9_0
theorem u9_0 : vcK P x_iFirstClash k e w = vcK P b9_0 k e w := rfl
def r_iFirstClash : List XO := [(.mv (.t 6)), (.mv (.t 7))]
theorem c_iFirstClash : convF Tryz.prog [56, 58, 59, 60, 61, 62, 72, 73, 77, 97, 98, 109, 110, 111, 112, 115, 128, 136] Tryz.f9 [([2, 3, 4], []), ([2, 3, 4, 13], []), ([6, 7], []), ([8], []), ([8, 20], []), ([6, 7], []), ([6, 7], [])] = some (x_iFirstClash, r_iFirstClash) := by kernel_rfl
def us_iFirstClash :=  (aI (aI @u9_0 (aI @u9_1 @u9_2)) (aI (aI @u9_3 @u9_4) (aI @u9_5 @u9_6)))
abbrev b10_1 : X := (.cond (.t 15) (.seq (.reg [6, 7] (.c (.q 6 [] (.mv (.c (.slice none 0 0)))) (.c (.q 7 [] (.mv (.c (.bool false)))) .nil))) .ret) .skip)
def t10_1 := b10_1
theorem u10_1 : vcK P t10_1 k e w = vcK P b10_1 k e w := rfl
abbrev b10_2 : X := (.cond (.t 41) (.reg [8, 24, 25, 26] (.c (.q 42 [] (.mv (.t 10))) (.c (.q 8 [] (.mv (.t 42))) .nil))) .skip)
def t10_2 := b10_2
theorem u10_2 : vcK P t10_2 k e w = vcK P b10_2 k e w := rfl
abbrev b10_3 : X := (.seq (.drw [8, 10, 24, 25, 26, 41] (.c (.q 30 [] (.mv (.t 8))) (.c (.q 31 [] (.lens (.t 30))) (.c (.q 32 [] (.bin .eql (.t 31) (.c (.int .i64 0)))) (.c (.q 33 [] (.mv (.t 32))) (.c (.q 34 [(33, false)] (.mv (.t 10))) (.c (.q 35 [(33, false)] (.ia 1 (.t 34) (.c (.int .i64 1)))) (.c (.q 36 [(33, false)] (.ld (.t 35))) (.c (.q 37 [(33, false)] (.mv (.t 8))) (.c (.q 38 [(33, false)] (.ia 1 (.t 37) (.c (.int .i64 1)))) (.c (.q 39 [(33, false)] (.ld (.t 38))) (.c (.q 40 [(33, false)] (.bin .lss (.t 36) (.t 39))) (.c (.q 41 [] (.pick (.t 33) (.c (.bool true)) (.t 40))) .nil))))))))))))) t10_2)
def t10_3 := b10_3
theorem u10_3 : vcK P t10_3 k e w = vcK P b10_3 k e w := rfl
abbrev b10_4 : X := (.reg [8, 24, 25, 26] (.c (.q 43 [] (.bin .add (.t 26) (.c (.int .i64 1)))) (.c (.q 26 [] (.mv (.t 43))) .nil)))
def t10_4 := b10_4
theorem u10_4 : vcK P t10_4 k e w = vcK P b10_4 k e w := rfl
abbrev b10_5 : X := (.seq (.blk 1 (.seq (.reg [8, 10, 24, 25, 26] (.c (.q 28 [] (.ia 1 (.t 24) (.t 26))) (.c (.q 29 [] (.ld (.t 28))) (.c (.q 10 [] (.mv (.t 29))) .nil)))) t10_3)) t10_4)
def t10_5 := b10_5
theorem u10_5 : vcK P t10_5 k e w = vcK P b10_5 k e w := rfl
abbrev b10_6 : X := (.seq (.cond (.t 27) .skip (.exit 0)) t10_5)
def t10_6 := b10_6
theorem u10_6 : vcK P t10_6 k e w = vcK P b10_6 k e w := rfl
abbrev b10_7 : X := (.seq (.reg [8, 24, 25, 26, 27] (.c (.q 27 [] (.bin .lss (.t 26) (.t 25))) .nil)) t10_6)
def t10_7 := b10_7
theorem u10_7 : vcK P t10_7 k e w = vcK P b10_7 k e w := rfl
abbrev b10_8 : X := (.blk 0 (.loop [8, 26] [24, 25] t10_7))
def t10_8 := b10_8
theorem u10_8 : vcK P t10_8 k e w = vcK P b10_8 k e w := rfl
abbrev b10_9 : X := (.seq (.reg [6, 7] (.c (.q 44 [] (.mv (.t 8))) (.c (.q 45 [] (.mv (.t 8))) (.c (.q 46 [] (.lens (.t 45))) (.c (.q 47 [] (.bin .gtr (.t 46) (.c (.int .i64 0)))) (.c (.q 6 [] (.mv (.t 44))) (.c (.q 7 [] (.mv (.t 47))) .nil))))))) .ret)
def t10_9 := b10_9
theorem u10_9 : vcK P t10_9 k e w = vcK P b10_9 k e w := rfl
abbrev b10_10 : X := (.seq (.seq (.drw [8, 24, 25, 26] (.c (.q 16 [] (.lda 3 (.t 3))) (.c (.q 17 [] (.lda 3 (.t 3))) (.c (.q 18 [] (.lda 2 (.t 4))) (.c (.q 19 [] (.mv (.t 2))) (.c (.q 21 [] (.mv (.t 2))) (.c (.q 22 [] (.len (.t 21))) (.c (.q 26 [] (.mv (.c (.int .i64 0)))) (.c (.e (some 20) [] (.call false 55 [(.t 17), (.t 18), (.t 19)])) (.c (.q 23 [] (.ssl 1 (.t 20) none (some (.t 22)))) (.c (.e (some 24) [] (.call false 54 [(.t 16), (.t 23)])) (.c (.q 25 [] (.lens (.t 24))) .nil)))))))))))) t10_8) t10_9)
def t10_10 := b10_10
theorem u10_10 : vcK P t10_10 k e w = vcK P b10_10 k e w := rfl
abbrev b10_11 : X := (.seq (.reg [2, 3, 4, 8] (.c (.q 8 [] (.mv (.c (.slice none 0 0)))) .nil)) t10_10)
def t10_11 := b10_11
theorem u10_11 : vcK P t10_11 k e w = vcK P b10_11 k e w := rfl
abbrev b10_12 : X := (.seq (.seq (.reg [2, 3, 4, 15] (.c (.q 11 [] (.lda 3 (.t 3))) (.c (.q 12 [] (.lda 2 (.t 4))) (.c (.q 13 [] (.mv (.t 2))) (.c (.e (some 14) [] (.call false 48 [(.t 11), (.t 12), (.t 13)])) (.c (.q 15 [] (.not (.t 14))) .nil)))))) t10_1) t10_11)
def t10_12 := b10_12
theorem u10_12 : vcK P t10_12 k e w = vcK P b10_12 k e w := rfl
abbrev b10_0 : X := (.seq (.reg [2, 3, 4] (.c (.e (some 3) [] (.box 25 (.t 0))) (.c (.e (some 4) [] (.box 27 (.t 1))) (.c (.q 6 [] (.mv (.c (.slice none 0 0)))) (.c (.q 7 [] (.mv (.c (.bool false)))) .nil))))) t10_12)
def x_sFirstClash := b10_0
theorem u10_0 : vcK P x_sFirstClash k e w = vcK P b10_0 k e w := rfl
def r_sFirstClash : List XO := [(.mv (.t 6)), (.mv (.t 7))]
theorem c_sFirstClash : convF Tryz.prog [56, 58, 59, 60, 61, 62, 72, 73, 77, 97, 98, 109, 110, 111, 112, 115, 128, 136] Tryz.f10 [([2, 3, 4], []), ([2, 3, 4, 15], []), ([6, 7], []), ([2, 3, 4, 8], []), ([8, 24, 25, 26], []), ([8, 26], [24, 25]), ([8, 24, 25, 26, 27], []), ([8, 10, 24, 25, 26], []), ([8, 10, 24, 25, 26, 41], []), ([8, 24, 25, 26], []), ([8, 24, 25, 26], []), ([6, 7], [])] = some (x_sFirstClash, r_sFirstClash) := by kernel_rfl
def us_sFirstClash :=  (aI (aI (aI @u10_0 (aI @u10_1 @u10_2)) (aI @u10_3 (aI @u10_4 @u10_5))) (aI (aI @u10_6 (aI @u10_7 @u10_8)) (aI (aI @u10_9 @u10_10) (aI @u10_11 @u10_12))))
abbrev b15_1 : X := (.cond (.t 10) (.seq (.reg [4] (.c (.q 4 [] (.mv (.c (.bool false)))) .nil)) .ret) .skip)
def t15_1 := b15_1
theorem u15_1 : vcK P t15_1 k e w = vcK P b15_1 k e w := rfl
abbrev b15_2 : X := (.cond (.t 25) (.seq (.reg [4] (.c (.q 4 [] (.mv (.c (.bool false)))) .nil)) .ret) .skip)
def t15_2 := b15_2
theorem u15_2 : vcK P t15_2 k e w = vcK P b15_2 k e w := rfl
abbrev b15_3 : X := (.seq (.drw [0, 1, 12, 13, 25] (.c (.q 16 [] (.mv (.t 0))) (.c (.q 17 [] (.mv (.t 5))) (.c (.q 18 [] (.ia 1 (.t 16) (.t 17))) (.c (.q 19 [] (.ld (.t 18))) (.c (.q 20 [] (.mv (.t 1))) (.c (.q 21 [] (.mv (.t 5))) (.c (.q 22 [] (.ia 1 (.t 20) (.t 21))) (.c (.q 23 [] (.ld (.t 22))) (.c (.e (some 24) [] (.call false 14 [(.t 19), (.t 23)])) (.c (.q 25 [] (.not (.t 24))) .nil))))))))))) t15_2)
def t15_3 := b15_3
theorem u15_3 : vcK P t15_3 k e w = vcK P b15_3 k e w := rfl
abbrev b15_4 : X := (.reg [0, 1, 12, 13] (.c (.q 26 [] (.bin .add (.t 13) (.c (.int .i64 1)))) (.c (.q 13 [] (.mv (.t 26))) .nil)))
def t15_4 := b15_4
theorem u15_4 : vcK P t15_4 k e w = vcK P b15_4 k e w := rfl
abbrev b15_5 : X := (.seq (.blk 1 (.seq (.reg [0, 1, 5, 12, 13] (.c (.q 15 [] (.mv (.t 13))) (.c (.q 5 [] (.mv (.t 15))) .nil))) t15_3)) t15_4)
def t15_5 := b15_5
theorem u15_5 : vcK P t15_5 k e w = vcK P b15_5 k e w := rfl
abbrev b15_6 : X := (.seq (.cond (.t 14) .skip (.exit 0)) t15_5)
def t15_6 := b15_6
theorem u15_6 : vcK P t15_6 k e w = vcK P b15_6 k e w := rfl
abbrev b15_7 : X := (.seq (.reg [0, 1, 12, 13, 14] (.c (.q 14 [] (.bin .lss (.t 13) (.t 12))) .nil)) t15_6)
def t15_7 := b15_7
theorem u15_7 : vcK P t15_7 k e w = vcK P b15_7 k e w := rfl
abbrev b15_8 : X := (.blk 0 (.loop [13] [0, 1, 12] t15_7))
def t15_8 := b15_8
theorem u15_8 : vcK P t15_8 k e w = vcK P b15_8 k e w := rfl
abbrev b15_9 : X := (.seq (.reg [4] (.c (.q 4 [] (.mv (.c (.bool true)))) .nil)) .ret)
def t15_9 := b15_9
theorem u15_9 : vcK P t15_9 k e w = vcK P b15_9 k e w := rfl
abbrev b15_10 : X := (.seq (.seq (.reg [0, 1, 12, 13] (.c (.q 11 [] (.mv (.t 0))) (.c (.q 12 [] (.lens (.t 11))) (.c (.q 13 [] (.mv (.c (.int .i64 0)))) .nil)))) t15_8) t15_9)
def t15_10 := b15_10
theorem u15_10 : vcK P t15_10 k e w = vcK P b15_10 k e w := rfl
abbrev b15_11 : X := (.seq (.seq (.reg [0, 1, 10] (.c (.q 6 [] (.mv (.t 0))) (.c (.q 7 [] (.lens (.t 6))) (.c (.q 8 [] (.mv (.t 1))) (.c (.q 9 [] (.lens (.t 8))) (.c (.q 10 [] (.bin .neq (.t 7) (.t 9))) .nil)))))) t15_1) t15_10)
def t15_11 := b15_11
theorem u15_11 : vcK P t15_11 k e w = vcK P b15_11 k e w := rfl
abbrev b15_0 : X := (.seq (.reg [0, 1] (.c (.q 4 [] (.mv (.c (.bool false)))) .nil)) t15_11)
def x_lqSameP := b15_0
theorem u15_0 : vcK P x_lqSameP k e w = vcK P b15_0 k e w := rfl
def r_lqSameP : List XO := [(.mv (.t 4))]
theorem c_lqSameP : convF Tryz.prog [56, 58, 59, 60, 61, 62, 72, 73, 77, 97, 98, 109, 110, 111, 112, 115, 128, 136] Tryz.f15 [([0, 1], []), ([0, 1, 10], []), ([4], []), ([0, 1, 12, 13], []), ([13], [0, 1, 12]), ([0, 1, 12, 13, 14], []), ([0, 1, 5, 12, 13], []), ([0, 1, 12, 13, 25], []), ([4], []), ([0, 1, 12, 13], []), ([4], [])] = some (x_lqSameP, r_lqSameP) := by kernel_rfl
def us_lqSameP :=  (aI (aI (aI @u15_0 (aI @u15_1 @u15_2)) (aI @u15_3 (aI @u15_4 @u15_5))) (aI (aI @u15_6 (aI @u15_7 @u15_8)) (aI @u15_9 (aI @u15_10 @u15_11))))
end
section
variable {P : Program} {m : Option World} {ps : List Nat} {k : KT} {r : XT} {d : Option Nat} {l : EL} {w : World}
/-- A call of a function's value. -/
theorem m_callvz {n : Nat} {first cap args : List Value} {R : Value → World → Prop} (hfn : ∃ fn, P.funcs[n]? = some fn ∧ fn.body.isSome = true ∧ (fn.name == "runtime.NumGoroutine") = false)
    (h : CallsV P n (first ++ args ++ cap) w fun v w' => Ext w w' ∧ R v w') (hR : ∀ v w', Ext w w' → R v w' → ∀ s, ops P m ps k r (setO ⟨l, s⟩ d v) w') : callvL P m ps k r d l w (.func (.func n) ⟨first⟩ ⟨cap⟩) args := by
  unfold callvL
  intro s
  unfold callvK
  exact ⟨n, first, cap, rfl, hfn, CallsV.mono h fun v w' ⟨a, b⟩ => hR v w' a b s⟩
end
theorem xcmp_isNaN_int_ok (n : Int) (w : World) : Fn 139 [.int .i64 n] w (fun r _ => r = .bool false) := by
  (refine callsV_of mix Tryz.func139 c_xcmp_isNaN_int ?_; simp only [↓vsd, vsn, gW, qd, qv, ev, pick, argE, zipE, ne_eq, eq_self, forall_const, implies_true, if_true, if_false, reduceIte, reduceCtorEq, Nat.reduceEqDiff, Nat.reduceAdd, Nat.reduceLT, ↓us_xcmp_isNaN_int, r_xcmp_isNaN_int])
  exact Ext.refl _
def cmpI (a b : Int) : Int := if a < b then -1 else if b < a then 1 else 0
theorem xcmp_Compare_int_ok (a b : Int) (w : World) : Fn 105 [.int .i64 a, .int .i64 b] w (fun r _ => r = .int .i64 (cmpI a b)) := by
  (refine callsV_of mix Tryz.func105 c_xcmp_Compare_int ?_; simp only [↓vsd, vsn, gW, qd, qv, ev, pick, argE, zipE, ne_eq, eq_self, forall_const, implies_true, if_true, if_false, reduceIte, reduceCtorEq, Nat.reduceEqDiff, Nat.reduceAdd, Nat.reduceLT, ↓us_xcmp_Compare_int, r_xcmp_Compare_int])
  refine m_call (xcmp_isNaN_int_ok a _) ?_
  rintro _ w1 hx1 rfl
  have hx1 : Ext w w1 := by first | exact hx1 | exact ud hx1 | exact ud (ud hx1)
  simp only [↓vsd, vsn, gW, qd, qv, ev, pick, argE, zipE, ne_eq, eq_self, forall_const, implies_true, if_true, if_false, reduceIte, reduceCtorEq, Nat.reduceEqDiff, Nat.reduceAdd, Nat.reduceLT, ↓us_xcmp_Compare_int, r_xcmp_Compare_int]
  refine m_call (xcmp_isNaN_int_ok b _) ?_
  rintro _ w2 hx2 rfl
  have hx2 : Ext w1 w2 := by first | exact hx2 | exact ud hx2 | exact ud (ud hx2)
  have hx := hx1.trans hx2
  by_cases h1 : a < b
  · simp only [↓vsd, vsn, gW, qd, qv, ev, pick, argE, zipE, ne_eq, eq_self, forall_const, implies_true, if_true, if_false, reduceIte, reduceCtorEq, Nat.reduceEqDiff, Nat.reduceAdd, Nat.reduceLT, ↓us_xcmp_Compare_int, r_xcmp_Compare_int, h1]
    exact ⟨hx, by rw [cmpI, if_pos h1]⟩
  · by_cases h2 : b < a
    · simp only [↓vsd, vsn, gW, qd, qv, ev, pick, argE, zipE, ne_eq, eq_self, forall_const, implies_true, if_true, if_false, reduceIte, reduceCtorEq, Nat.reduceEqDiff, Nat.reduceAdd, Nat.reduceLT, ↓us_xcmp_Compare_int, r_xcmp_Compare_int, h1, h2]
      exact ⟨hx, by rw [cmpI, if_neg h1, if_pos h2]⟩
    · simp only [↓vsd, vsn, gW, qd, qv, ev, pick, argE, zipE, ne_eq, eq_self, forall_const, implies_true, if_true, if_false, reduceIte, reduceCtorEq, Nat.reduceEqDiff, Nat.reduceAdd, Nat.reduceLT, ↓us_xcmp_Compare_int, r_xcmp_Compare_int, h1, h2]
      exact ⟨hx, by rw [cmpI, if_neg h1, if_neg h2]⟩
def cmp2 (a b : List Int) : Int := if cmpI (a.getD 0 0) (b.getD 0 0) = 0 then cmpI (a.getD 1 0) (b.getD 1 0) else cmpI (a.getD 0 0) (b.getD 0 0)
theorem xslices_Compare_int_int_ok (v u : Value) (a b : List Int) (ha : a.length = 2) (hb : b.length = 2) (w : World) (h : Sq fI 1 w v a) (h' : Sq fI 1 w u b) : Fn 53 [v, u] w (fun r _ => r = .int .i64 (cmp2 a b)) := by
  (refine callsV_of mix Tryz.func53 c_xslices_Compare_int_int ?_; simp only [↓vsd, vsn, gW, qd, qv, ev, pick, argE, zipE, ne_eq, eq_self, forall_const, implies_true, if_true, if_false, reduceIte, reduceCtorEq, Nat.reduceEqDiff, Nat.reduceAdd, Nat.reduceLT, ↓us_xslices_Compare_int_int, r_xslices_Compare_int_int])
  simp only [↓vsd, vsn, gW, qd, qv, ev, pick, argE, zipE, ne_eq, eq_self, forall_const, implies_true, if_true, if_false, reduceIte, reduceCtorEq, Nat.reduceEqDiff, Nat.reduceAdd, Nat.reduceLT, ↓us_xslices_Compare_int_int, r_xslices_Compare_int_int, h.facts]
  refine m_upto 2 (fun k vs w' => vs = [.int .i64 k] ∧ (∀ i, i < k → cmpI (a.getD i 0) (b.getD i 0) = 0) ∧ Ext w w') ⟨rfl, fun i hi => by omega, Ext.refl _⟩ ?_
  rintro k vs w1 hk ⟨rfl, hz, hx1⟩
  have hq := h.ext hx1
  have hq' := h'.ext hx1
  by_cases hlt : k < 2
  · have hltI : (k : Int) < a.length := by omega
    have hltJ : ¬ (b.length : Int) ≤ k := by omega
    have a1 := hq.at1 0 (i := k) (by omega)
    have b1 := hq'.at1 0 (i := k) (by omega)
    simp only [↓vsd, vsn, gW, qd, qv, ev, pick, argE, zipE, ne_eq, eq_self, forall_const, implies_true, if_true, if_false, reduceIte, reduceCtorEq, Nat.reduceEqDiff, Nat.reduceAdd, Nat.reduceLT, ↓us_xslices_Compare_int_int, r_xslices_Compare_int_int, hltI, hltJ, hq.facts, hq'.facts, a1, b1]
    refine ⟨by omega, by omega, m_call (xcmp_Compare_int_ok _ _ _) ?_⟩
    rintro _ w2 hx2 rfl
    have hx2 : Ext w1 w2 := by first | exact hx2 | exact ud hx2 | exact ud (ud hx2)
    by_cases hc : cmpI (a.getD k 0) (b.getD k 0) = 0
    · simp only [↓vsd, vsn, gW, qd, qv, ev, pick, argE, zipE, ne_eq, eq_self, forall_const, implies_true, if_true, if_false, reduceIte, reduceCtorEq, Nat.reduceEqDiff, Nat.reduceAdd, Nat.reduceLT, ↓us_xslices_Compare_int_int, r_xslices_Compare_int_int, hc]
      exact ⟨inR_i64 (by omega), UpTo.next hlt ⟨rfl, fun i hi => by
        by_cases e : i = k
        · rw [e]; exact hc
        · exact hz i (by omega), hx1.trans hx2⟩⟩
    · have e : cmp2 a b = cmpI (a.getD k 0) (b.getD k 0) := by
        obtain rfl | rfl : k = 0 ∨ k = 1 := by omega
        · rw [cmp2, if_neg hc]
        · rw [cmp2, if_pos (hz 0 (by omega))]
      simp only [↓vsd, vsn, gW, qd, qv, ev, pick, argE, zipE, ne_eq, eq_self, forall_const, implies_true, if_true, if_false, reduceIte, reduceCtorEq, Nat.reduceEqDiff, Nat.reduceAdd, Nat.reduceLT, ↓us_xslices_Compare_int_int, r_xslices_Compare_int_int, hc]
      exact ⟨hx1.trans hx2, by rw [e]⟩
  · obtain rfl : k = 2 := by omega
    have hltI : ¬ ((2 : Nat) : Int) < a.length := by omega
    have hltJ : ¬ (a.length : Int) < b.length := by omega
    have e : cmp2 a b = 0 := by rw [cmp2, if_pos (hz 0 (by omega)), hz 1 (by omega)]
    simp only [↓vsd, vsn, gW, qd, qv, ev, pick, argE, zipE, ne_eq, eq_self, forall_const, implies_true, if_true, if_false, reduceIte, reduceCtorEq, Nat.reduceEqDiff, Nat.reduceAdd, Nat.reduceLT, ↓us_xslices_Compare_int_int, r_xslices_Compare_int_int, hltI, hltJ, hq.facts, hq'.facts, e]
    exact hx1
/-- How FirstClash compares two pairs. -/
def cmpP (a b : List Int) : Int := cmp2 [a.getD 1 0, a.getD 0 0] [b.getD 1 0, b.getD 0 0]
theorem iFirstClashS1_ok (v u : Value) (a b : List Int) (ha : a.length = 2) (hb : b.length = 2) (w : World) (h : Sq fI 1 w v a) (h' : Sq fI 1 w u b) : Fn 52 [v, u] w (fun r _ => r = .int .i64 (cmpP a b)) := by
  have a0 := h.at0 0 (by omega)
  have b0 := h'.at0 0 (by omega)
  have a1 : ∀ k : IntKind, ldV w (iaV 1 v (.int k 1)) = .int .i64 (a.getD 1 0) ∧ ldD w (iaV 1 v (.int k 1)) = True := h.at1 0 (i := 1) (by omega)
  have b1 : ∀ k : IntKind, ldV w (iaV 1 u (.int k 1)) = .int .i64 (b.getD 1 0) ∧ ldD w (iaV 1 u (.int k 1)) = True := h'.at1 0 (i := 1) (by omega)
  have hl0 : (0 : Int) < a.length := by omega
  have hl1 : (1 : Int) < a.length := by omega
  have hk0 : (0 : Int) < b.length := by omega
  have hk1 : (1 : Int) < b.length := by omega
  (refine callsV_of mix Tryz.func52 c_iFirstClashS1 ?_; simp only [↓vsd, vsn, gW, qd, qv, ev, pick, argE, zipE, ne_eq, eq_self, forall_const, implies_true, if_true, if_false, reduceIte, reduceCtorEq, Nat.reduceEqDiff, Nat.reduceAdd, Nat.reduceLT, ↓us_iFirstClashS1, r_iFirstClashS1])
  simp only [↓vsd, vsn, gW, qd, qv, ev, pick, argE, zipE, ne_eq, eq_self, forall_const, implies_true, if_true, if_false, reduceIte, reduceCtorEq, Nat.reduceEqDiff, Nat.reduceAdd, Nat.reduceLT, ↓us_iFirstClashS1, r_iFirstClashS1, h.facts, h'.facts, a0, a1, b0, b1]
  refine ⟨by omega, by omega, by omega, by omega, ?_, ?_⟩
  · refine m_bsl (fun p hp => by simp only [List.mem_cons, List.not_mem_nil, or_false] at hp; rcases hp with rfl | rfl <;> rfl) ?_
    rintro b7 w7 hb7 hblk7 hx7 hs7
    have hx7 : Ext w w7 := by first | exact hx7 | exact ud hx7 | exact ud (ud hx7)
    simp only [↓vsd, vsn, gW, qd, qv, ev, pick, argE, zipE, ne_eq, eq_self, forall_const, implies_true, if_true, if_false, reduceIte, reduceCtorEq, Nat.reduceEqDiff, Nat.reduceAdd, Nat.reduceLT, ↓us_iFirstClashS1, r_iFirstClashS1]
    refine m_bsl (fun p hp => by simp only [List.mem_cons, List.not_mem_nil, or_false] at hp; rcases hp with rfl | rfl <;> rfl) ?_
    rintro b8 w8 hb8 hblk8 hx8 hs8
    have hx8 : Ext w7 w8 := by first | exact hx8 | exact ud hx8 | exact ud (ud hx8)
    have q7 : Own fI 1 3 0 w8 (SV.v ⟨some ⟨b7, 0, none⟩, 2, 2⟩) [a.getD 1 0, a.getD 0 0] := ⟨fI_len, .inr ⟨b7, 2, _, rfl, Nat.zero_le _, hblk7.ext hx8, Nat.le_refl _, by unfold maxLen; omega, rfl, rfl⟩⟩
    have q8 : Own fI 1 3 0 w8 (SV.v ⟨some ⟨b8, 0, none⟩, 2, 2⟩) [b.getD 1 0, b.getD 0 0] := ⟨fI_len, .inr ⟨b8, 2, _, rfl, Nat.zero_le _, hblk8, Nat.le_refl _, by unfold maxLen; omega, rfl, rfl⟩⟩
    simp only [↓vsd, vsn, gW, qd, qv, ev, pick, argE, zipE, ne_eq, eq_self, forall_const, implies_true, if_true, if_false, reduceIte, reduceCtorEq, Nat.reduceEqDiff, Nat.reduceAdd, Nat.reduceLT, ↓us_iFirstClashS1, r_iFirstClashS1]
    refine m_call (xslices_Compare_int_int_ok _ _ _ _ rfl rfl _ (by first | exact q7.sq | exact q7.sq.ext (dr (Ext.refl _))) (by first | exact q8.sq | exact q8.sq.ext (dr (Ext.refl _)))) ?_
    rintro _ w9 hx9 rfl
    have hx9 : Ext w8 w9 := by first | exact hx9 | exact ud hx9 | exact ud (ud hx9)
    simp only [↓vsd, vsn, gW, qd, qv, ev, pick, argE, zipE, ne_eq, eq_self, forall_const, implies_true, if_true, if_false, reduceIte, reduceCtorEq, Nat.reduceEqDiff, Nat.reduceAdd, Nat.reduceLT, ↓us_iFirstClashS1, r_iFirstClashS1]
    first | exact ⟨(hx7.trans hx8).trans hx9, rfl⟩ | exact (hx7.trans hx8).trans hx9
  · refine m_bsl (fun p hp => by simp only [List.mem_cons, List.not_mem_nil, or_false] at hp; rcases hp with rfl | rfl <;> rfl) ?_
    rintro b7 w7 hb7 hblk7 hx7 hs7
    have hx7 : Ext w w7 := by first | exact hx7 | exact ud hx7 | exact ud (ud hx7)
    simp only [↓vsd, vsn, gW, qd, qv, ev, pick, argE, zipE, ne_eq, eq_self, forall_const, implies_true, if_true, if_false, reduceIte, reduceCtorEq, Nat.reduceEqDiff, Nat.reduceAdd, Nat.reduceLT, ↓us_iFirstClashS1, r_iFirstClashS1]
    refine m_bsl (fun p hp => by simp only [List.mem_cons, List.not_mem_nil, or_false] at hp; rcases hp with rfl | rfl <;> rfl) ?_
    rintro b8 w8 hb8 hblk8 hx8 hs8
    have hx8 : Ext w7 w8 := by first | exact hx8 | exact ud hx8 | exact ud (ud hx8)
    have q7 : Own fI 1 3 0 w8 (SV.v ⟨some ⟨b7, 0, none⟩, 2, 2⟩) [b.getD 1 0, b.getD 0 0] := ⟨fI_len, .inr ⟨b7, 2, _, rfl, Nat.zero_le _, hblk7.ext hx8, Nat.le_refl _, by unfold maxLen; omega, rfl, rfl⟩⟩
    have q8 : Own fI 1 3 0 w8 (SV.v ⟨some ⟨b8, 0, none⟩, 2, 2⟩) [a.getD 1 0, a.getD 0 0] := ⟨fI_len, .inr ⟨b8, 2, _, rfl, Nat.zero_le _, hblk8, Nat.le_refl _, by unfold maxLen; omega, rfl, rfl⟩⟩
    simp only [↓vsd, vsn, gW, qd, qv, ev, pick, argE, zipE, ne_eq, eq_self, forall_const, implies_true, if_true, if_false, reduceIte, reduceCtorEq, Nat.reduceEqDiff, Nat.reduceAdd, Nat.reduceLT, ↓us_iFirstClashS1, r_iFirstClashS1]
    refine m_call (xslices_Compare_int_int_ok _ _ _ _ rfl rfl _ (by first | exact q8.sq | exact q8.sq.ext (dr (Ext.refl _))) (by first | exact q7.sq | exact q7.sq.ext (dr (Ext.refl _)))) ?_
    rintro _ w9 hx9 rfl
    have hx9 : Ext w8 w9 := by first | exact hx9 | exact ud hx9 | exact ud (ud hx9)
    simp only [↓vsd, vsn, gW, qd, qv, ev, pick, argE, zipE, ne_eq, eq_self, forall_const, implies_true, if_true, if_false, reduceIte, reduceCtorEq, Nat.reduceEqDiff, Nat.reduceAdd, Nat.reduceLT, ↓us_iFirstClashS1, r_iFirstClashS1]
    first | exact ⟨(hx7.trans hx8).trans hx9, rfl⟩ | exact (hx7.trans hx8).trans hx9
def bst (L : List (List Int)) : Nat → List Int
  | 0 => []
  | k + 1 => if (bst L k).length = 0 ∨ (L.getD k []).getD 1 0 < (bst L k).getD 1 0 then L.getD k [] else bst L k
/-- Pairs that rise in their first numbers. -/
def PrL (L : List (List Int)) : Prop := (∀ k, k < L.length → (L.getD k []).length = 2) ∧ ∀ i j, i ≤ j → j < L.length → (L.getD i []).getD 0 0 ≤ (L.getD j []).getD 0 0
theorem bst_is {L : List (List Int)} (k : Nat) : ∃ i, i ≤ k ∧ bst L (k + 1) = L.getD i [] := by
  induction k with
  | zero => exact ⟨0, Nat.le_refl _, by rw [bst, if_pos (.inl rfl)]⟩
  | succ k ih =>
    obtain ⟨i, hi, e⟩ := ih
    rw [bst]
    split
    · exact ⟨k + 1, Nat.le_refl _, rfl⟩
    · exact ⟨i, by omega, e⟩
theorem bst_step {L : List (List Int)} (h : PrL L) {k : Nat} (hk : k + 1 < L.length) : bst L (k + 2) = if cmpP (L.getD (k + 1) []) (bst L (k + 1)) < 0 then L.getD (k + 1) [] else bst L (k + 1) := by
  obtain ⟨i, hi, e⟩ := bst_is (L := L) k
  have h2 := h.1 i (by omega)
  have hle := h.2 i (k + 1) (by omega) hk
  rw [bst, e]
  have hne : ¬ (L.getD i []).length = 0 := by omega
  have key : cmpP (L.getD (k + 1) []) (L.getD i []) < 0 ↔ (L.getD (k + 1) []).getD 1 0 < (L.getD i []).getD 1 0 := by
    show (if cmpI ((L.getD (k + 1) []).getD 1 0) ((L.getD i []).getD 1 0) = 0 then cmpI ((L.getD (k + 1) []).getD 0 0) ((L.getD i []).getD 0 0) else cmpI ((L.getD (k + 1) []).getD 1 0) ((L.getD i []).getD 1 0)) < 0 ↔ _
    unfold cmpI
    constructor
    · intro hh
      split at hh <;> (repeat' split at hh) <;> omega
    · intro hh
      rw [if_pos hh, if_neg (by decide)]
      decide
  by_cases hc : (L.getD (k + 1) []).getD 1 0 < (L.getD i []).getD 1 0
  · rw [if_pos (.inr hc), if_pos (key.2 hc)]
  · rw [if_neg (fun hh => hh.elim hne hc), if_neg (fun hh => hc (key.1 hh))]
theorem xslices_MinFunc_int_int_ok (v : Value) (L : List (List Int)) (n : Nat) (hL : PrL L) (h1 : 1 ≤ L.length) (hl : L.length ≤ 1000000) (w : World) (h : Sq2 fI w v L)
    (hfn : ∃ fn, Tryz.prog.funcs[n]? = some fn ∧ fn.body.isSome = true ∧ (fn.name == "runtime.NumGoroutine") = false) (hn : n = 52) :
    Fn 51 [v, .func (.func n) ⟨[]⟩ ⟨[]⟩] w (fun r w' => Sq fI 1 w' r (bst L L.length)) := by
  obtain ⟨x0, hx0, q0⟩ := h.at (i := 0) (by omega)
  have hx0' : ∀ k : IntKind, ldV w (iaV 1 v (.int k 0)) = x0 ∧ ldD w (iaV 1 v (.int k 0)) = True := hx0
  have hcI : ¬ (L.length : Int) < 1 := by omega
  (refine callsV_of mix Tryz.func51 c_xslices_MinFunc_int_int ?_; simp only [↓vsd, vsn, gW, qd, qv, ev, pick, argE, zipE, ne_eq, eq_self, forall_const, implies_true, if_true, if_false, reduceIte, reduceCtorEq, Nat.reduceEqDiff, Nat.reduceAdd, Nat.reduceLT, ↓us_xslices_MinFunc_int_int, r_xslices_MinFunc_int_int])
  simp only [↓vsd, vsn, gW, qd, qv, ev, pick, argE, zipE, ne_eq, eq_self, forall_const, implies_true, if_true, if_false, reduceIte, reduceCtorEq, Nat.reduceEqDiff, Nat.reduceAdd, Nat.reduceLT, ↓us_xslices_MinFunc_int_int, r_xslices_MinFunc_int_int, h.facts, hx0', hcI]
  refine ⟨by omega, ?_⟩
  refine m_upto (L.length - 1) (fun j vs w' => ∃ x, vs = [x, .int .i64 ((j + 1 : Nat) : Int)] ∧ Sq fI 1 w' x (bst L (j + 1)) ∧ Ext w w') ⟨x0, rfl, q0, Ext.refl _⟩ ?_
  rintro j vs w1 hj ⟨x, rfl, hx, hx1⟩
  have hq := h.ext hx1
  by_cases hlt : j + 1 < L.length
  · have hltI : ((j + 1 : Nat) : Int) < L.length := by omega
    have hltJ : ¬ (L.length : Int) ≤ ((j + 1 : Nat) : Int) := by omega
    obtain ⟨y, hy, qy⟩ := hq.at hlt
    obtain ⟨i, hi, ei⟩ := bst_is (L := L) j
    have hst := bst_step hL hlt
    have hlb : (bst L (j + 1)).length = 2 := by rw [ei]; exact hL.1 i (by omega)
    simp only [↓vsd, vsn, gW, qd, qv, ev, pick, argE, zipE, ne_eq, eq_self, forall_const, implies_true, if_true, if_false, reduceIte, reduceCtorEq, Nat.reduceEqDiff, Nat.reduceAdd, Nat.reduceLT, ↓us_xslices_MinFunc_int_int, r_xslices_MinFunc_int_int, hltI, hq.facts, hy]
    refine ⟨by omega, m_callvz hfn (R := fun r _ => r = .int .i64 (cmpP (L.getD (j + 1) []) (bst L (j + 1)))) (by subst hn; exact iFirstClashS1_ok y x _ _ (hL.1 _ hlt) hlb _ (by first | exact qy | exact qy.ext (dr (Ext.refl _))) (by first | exact hx | exact hx.ext (dr (Ext.refl _)))) ?_⟩
    rintro _ w2 hx2 rfl
    have hx2 : Ext w1 w2 := by first | exact hx2 | exact ud hx2 | exact ud (ud hx2)
    have ej : ((j + 1 : Nat) : Int) + 1 = ((j + 1 + 1 : Nat) : Int) := by omega
    by_cases hc : cmpP (L.getD (j + 1) []) (bst L (j + 1)) < 0
    · rw [if_pos hc] at hst
      have hq2 := hq.ext hx2
      obtain ⟨y2, hy2, qy2⟩ := hq2.at hlt
      simp only [↓vsd, vsn, gW, qd, qv, ev, pick, argE, zipE, ne_eq, eq_self, forall_const, implies_true, if_true, if_false, reduceIte, reduceCtorEq, Nat.reduceEqDiff, Nat.reduceAdd, Nat.reduceLT, ↓us_xslices_MinFunc_int_int, r_xslices_MinFunc_int_int, hc, hq2.facts, hy2, ej]
      exact ⟨by omega, inR_i64 (by omega), UpTo.next (by omega) ⟨y2, rfl, by rw [hst]; exact qy2, hx1.trans hx2⟩⟩
    · rw [if_neg hc] at hst
      simp only [↓vsd, vsn, gW, qd, qv, ev, pick, argE, zipE, ne_eq, eq_self, forall_const, implies_true, if_true, if_false, reduceIte, reduceCtorEq, Nat.reduceEqDiff, Nat.reduceAdd, Nat.reduceLT, ↓us_xslices_MinFunc_int_int, r_xslices_MinFunc_int_int, hc, ej]
      exact ⟨inR_i64 (by omega), UpTo.next (by omega) ⟨x, rfl, by rw [hst]; exact hx.ext hx2, hx1.trans hx2⟩⟩
  · have hltI : ¬ ((j + 1 : Nat) : Int) < L.length := by omega
    simp only [↓vsd, vsn, gW, qd, qv, ev, pick, argE, zipE, ne_eq, eq_self, forall_const, implies_true, if_true, if_false, reduceIte, reduceCtorEq, Nat.reduceEqDiff, Nat.reduceAdd, Nat.reduceLT, ↓us_xslices_MinFunc_int_int, r_xslices_MinFunc_int_int, hltI, hq.facts]
    exact ⟨hx1, by rw [show L.length = j + 1 by omega]; exact hx⟩
theorem prRow_mem {p : Nat → Nat → Bool} {i m : Nat} {x : List Int} (h : x ∈ prRow p i m) : ∃ k : Nat, x = [(i : Int), (k : Int)] := by
  obtain ⟨k, _, e⟩ := List.mem_map.1 h
  exact ⟨k, e.symm⟩
theorem prs_pr (p : Nat → Nat → Bool) (n m : Nat) : PrL (prs p n m) := by
  have hp : (prs p n m).Pairwise fun a b => a.getD 0 0 ≤ b.getD 0 0 := by
    unfold prs
    rw [List.pairwise_flatMap]
    refine ⟨fun j _ => ?_, ?_⟩
    · rw [prRow, List.pairwise_map]
      exact (List.Pairwise.filter _ List.pairwise_lt_range).imp fun _ => Int.le_refl _
    · refine List.pairwise_lt_range.imp fun {j k} hjk a ha b hb => ?_
      obtain ⟨_, rfl⟩ := prRow_mem ha
      obtain ⟨_, rfl⟩ := prRow_mem hb
      show (j : Int) ≤ k
      omega
  refine ⟨fun k hk => ?_, fun i j hij hj => ?_⟩
  · have hm := getD_mem (l := prs p n m) (k := k) [] hk
    obtain ⟨j, _, hj⟩ := List.mem_flatMap.1 hm
    obtain ⟨_, e⟩ := prRow_mem hj
    rw [e]; rfl
  · by_cases e : i = j
    · rw [e]; exact Int.le_refl _
    · have h1 := List.pairwise_iff_getElem.1 hp i j (by omega) hj (by omega)
      have e1 : (prs p n m).getD i [] = (prs p n m)[i] := by rw [List.getD_eq_getElem?_getD, List.getElem?_eq_getElem (show i < (prs p n m).length by omega)]; rfl
      have e2 : (prs p n m).getD j [] = (prs p n m)[j] := by rw [List.getD_eq_getElem?_getD, List.getElem?_eq_getElem hj]; rfl
      rw [e1, e2]
      exact h1
def FcOk (nm : Bs) (st : Int) (cs : List Bs) (b s t : Bs) : Prop := IsMT nm st cs b s t ∧ ¬ (clT st.toNat cs b s t).length = 0
instance (nm : Bs) (st : Int) (cs : List Bs) (b s t : Bs) : Decidable (FcOk nm st cs b s t) := by unfold FcOk; infer_instance
def fcV (nm : Bs) (st : Int) (cs : List Bs) (b s t : Bs) : List Int := if FcOk nm st cs b s t then bst (clT st.toNat cs b s t) (clT st.toNat cs b s t).length else []
theorem fn_S1 : ∃ fn, Tryz.prog.funcs[52]? = some fn ∧ fn.body.isSome = true ∧ (fn.name == "runtime.NumGoroutine") = false := ⟨_, Tryz.func52, rfl, rfl⟩
theorem iFirstClash_ok (nm : Bs) (st : Int) (v : Value) (cs : List Bs) (b s t : Bs) (hnm : nm.length ≤ 1048576) (hs : ∀ c ∈ cs, c.length ≤ 1048576) (hl : cs.length ≤ 1000000000) (hb : b.length ≤ 1048576 ∧ s.length ≤ 1048576) (ht : t.length ≤ 1000000000) (w : World) (h : Sq fS 1 w v cs) : Fn 9 [mV nm st v, kV b s, S t] w (fun r w' => ∃ x, r = .tuple ⟨[x, .bool (decide (FcOk nm st cs b s t))]⟩ ∧ Sq fI 1 w' x (fcV nm st cs b s t)) := by
  have hno : ¬ FcOk nm st cs b s t → ∀ w', ∃ y, Value.tuple ⟨[.slice none 0 0, .bool false]⟩ = .tuple ⟨[y, .bool (decide (FcOk nm st cs b s t))]⟩ ∧ Sq fI 1 w' y (fcV nm st cs b s t) := fun hn w' =>
    ⟨_, by rw [decide_eq_false hn], by rw [fcV, if_neg hn]; exact Sq.nil fI_len⟩
  (refine callsV_of mix Tryz.func9 c_iFirstClash ?_; simp only [↓vsd, vsn, gW, qd, qv, ev, pick, argE, zipE, ne_eq, eq_self, forall_const, implies_true, if_true, if_false, reduceIte, reduceCtorEq, Nat.reduceEqDiff, Nat.reduceAdd, Nat.reduceLT, ↓us_iFirstClash, r_iFirstClash])
  refine m_al ?_
  rintro b1 w1 hb1 hblk1 hx1 hs1
  have h1 : Blk w1 b1 (fM nm st v) 25 := hblk1
  simp only [↓vsd, vsn, gW, qd, qv, ev, pick, argE, zipE, ne_eq, eq_self, forall_const, implies_true, if_true, if_false, reduceIte, reduceCtorEq, Nat.reduceEqDiff, Nat.reduceAdd, Nat.reduceLT, ↓us_iFirstClash, r_iFirstClash, h1.facts, fMg]
  refine m_al ?_
  rintro b2 w2 hb2 hblk2 hx2 hs2
  have h2 : Blk w2 b2 (fQ b s) 27 := hblk2
  have h12 := h1.ext hx2
  have hx12 := hx1.trans hx2
  have hq2 := h.ext hx12
  simp only [↓vsd, vsn, gW, qd, qv, ev, pick, argE, zipE, ne_eq, eq_self, forall_const, implies_true, if_true, if_false, reduceIte, reduceCtorEq, Nat.reduceEqDiff, Nat.reduceAdd, Nat.reduceLT, ↓us_iFirstClash, r_iFirstClash, h12.facts, h2.facts, fMg, fQg, hq2.facts]
  refine m_call (igoodFor_ok nm st v cs b s t hnm hs hl hb ht _ (h.ext hx12)) ?_
  rintro _ w3 hx3 rfl
  have hx3 : Ext w2 w3 := by first | exact hx3 | exact ud hx3 | exact ud (ud hx3)
  have hx13 := hx12.trans hx3
  have h13 := h12.ext hx3
  have h23 := h2.ext hx3
  by_cases hM : IsMC nm st cs b s ∧ IsTch t
  · have hM' : IsMT nm st cs b s t := hM
    obtain ⟨n, rfl⟩ : ∃ n : Nat, st = n := ⟨st.toNat, by have := hM.1.1.2.1; omega⟩
    have hcl := clT_len n cs b s t hM'.2.1.2
    simp only [↓vsd, vsn, gW, qd, qv, ev, pick, argE, zipE, ne_eq, eq_self, forall_const, implies_true, if_true, if_false, reduceIte, reduceCtorEq, Nat.reduceEqDiff, Nat.reduceAdd, Nat.reduceLT, ↓us_iFirstClash, r_iFirstClash, hM, h13.facts, h23.facts, fMg, fQg]
    refine m_call (iheadClashes_ok nm n v cs b s t hM' _ (by first | exact h.ext hx13 | exact (h.ext hx13).ext (dr (Ext.refl _)))) ?_
    rintro y w4 hx4 hN
    have hx4 : Ext w3 w4 := by first | exact hx4 | exact ud hx4 | exact ud (ud hx4)
    have hx14 := hx13.trans hx4
    by_cases h0 : (clT n cs b s t).length = 0
    · have h0I : (((clT n cs b s t).length : Nat) : Int) = 0 := by omega
      simp only [↓vsd, vsn, gW, qd, qv, ev, pick, argE, zipE, ne_eq, eq_self, forall_const, implies_true, if_true, if_false, reduceIte, reduceCtorEq, Nat.reduceEqDiff, Nat.reduceAdd, Nat.reduceLT, ↓us_iFirstClash, r_iFirstClash, hN.sq.facts, h0I]
      exact ⟨hx14, hno (fun hh => hh.2 (by rw [Int.toNat_natCast]; exact h0)) _⟩
    · have h0I : ¬ (((clT n cs b s t).length : Nat) : Int) = 0 := by omega
      have hok : FcOk nm n cs b s t := ⟨hM', by rw [Int.toNat_natCast]; exact h0⟩
      simp only [↓vsd, vsn, gW, qd, qv, ev, pick, argE, zipE, ne_eq, eq_self, forall_const, implies_true, if_true, if_false, reduceIte, reduceCtorEq, Nat.reduceEqDiff, Nat.reduceAdd, Nat.reduceLT, ↓us_iFirstClash, r_iFirstClash, hN.sq.facts, h0I]
      refine m_call (xslices_MinFunc_int_int_ok y (clT n cs b s t) 52 (prs_pr _ _ _) (by omega) (by omega) _ (by first | exact hN.sq | exact hN.sq.ext (dr (Ext.refl _))) fn_S1 rfl) ?_
      rintro z w5 hx5 hz
      have hx5 : Ext w4 w5 := by first | exact hx5 | exact ud hx5 | exact ud (ud hx5)
      simp only [↓vsd, vsn, gW, qd, qv, ev, pick, argE, zipE, ne_eq, eq_self, forall_const, implies_true, if_true, if_false, reduceIte, reduceCtorEq, Nat.reduceEqDiff, Nat.reduceAdd, Nat.reduceLT, ↓us_iFirstClash, r_iFirstClash]
      exact ⟨hx14.trans hx5, z, by rw [decide_eq_true hok], by rw [fcV, if_pos hok, Int.toNat_natCast]; exact hz⟩
  · simp only [↓vsd, vsn, gW, qd, qv, ev, pick, argE, zipE, ne_eq, eq_self, forall_const, implies_true, if_true, if_false, reduceIte, reduceCtorEq, Nat.reduceEqDiff, Nat.reduceAdd, Nat.reduceLT, ↓us_iFirstClash, r_iFirstClash, hM]
    exact ⟨hx13, hno (fun hh => hM hh.1) _⟩
theorem sFirstClash_ok (nm : Bs) (st : Int) (v : Value) (cs : List Bs) (b s t : Bs) (hnm : nm.length ≤ 1048576) (hs : ∀ c ∈ cs, c.length ≤ 1048576) (hl : cs.length ≤ 1000000000) (hb : b.length ≤ 1048576 ∧ s.length ≤ 1048576) (ht : t.length ≤ 1000000000) (w : World) (h : Sq fS 1 w v cs) : Fn 10 [mV nm st v, kV b s, S t] w (fun r w' => ∃ x, r = .tuple ⟨[x, .bool (decide (FcOk nm st cs b s t))]⟩ ∧ Sq fI 1 w' x (fcV nm st cs b s t)) := by
  have hno : ¬ FcOk nm st cs b s t → ∀ w', ∃ y, Value.tuple ⟨[.slice none 0 0, .bool false]⟩ = .tuple ⟨[y, .bool (decide (FcOk nm st cs b s t))]⟩ ∧ Sq fI 1 w' y (fcV nm st cs b s t) := fun hn w' =>
    ⟨_, by rw [decide_eq_false hn], by rw [fcV, if_neg hn]; exact Sq.nil fI_len⟩
  (refine callsV_of mix Tryz.func10 c_sFirstClash ?_; simp only [↓vsd, vsn, gW, qd, qv, ev, pick, argE, zipE, ne_eq, eq_self, forall_const, implies_true, if_true, if_false, reduceIte, reduceCtorEq, Nat.reduceEqDiff, Nat.reduceAdd, Nat.reduceLT, ↓us_sFirstClash, r_sFirstClash])
  refine m_al ?_
  rintro b1 w1 hb1 hblk1 hx1 hs1
  have h1 : Blk w1 b1 (fM nm st v) 25 := hblk1
  simp only [↓vsd, vsn, gW, qd, qv, ev, pick, argE, zipE, ne_eq, eq_self, forall_const, implies_true, if_true, if_false, reduceIte, reduceCtorEq, Nat.reduceEqDiff, Nat.reduceAdd, Nat.reduceLT, ↓us_sFirstClash, r_sFirstClash, h1.facts, fMg]
  refine m_al ?_
  rintro b2 w2 hb2 hblk2 hx2 hs2
  have h2 : Blk w2 b2 (fQ b s) 27 := hblk2
  have h12 := h1.ext hx2
  have hx12 := hx1.trans hx2
  have hq2 := h.ext hx12
  simp only [↓vsd, vsn, gW, qd, qv, ev, pick, argE, zipE, ne_eq, eq_self, forall_const, implies_true, if_true, if_false, reduceIte, reduceCtorEq, Nat.reduceEqDiff, Nat.reduceAdd, Nat.reduceLT, ↓us_sFirstClash, r_sFirstClash, h12.facts, h2.facts, fMg, fQg, hq2.facts]
  refine m_call (sl9Asked_ok nm st v cs b s t hnm hs hl hb ht _ (h.ext hx12)) ?_
  rintro _ w3 hx3 rfl
  have hx3 : Ext w2 w3 := by first | exact hx3 | exact ud hx3 | exact ud (ud hx3)
  have hx13 := hx12.trans hx3
  have h13 := h12.ext hx3
  have h23 := h2.ext hx3
  by_cases hM : IsMC nm st cs b s ∧ IsTch t
  · have hM' : IsMT nm st cs b s t := hM
    obtain ⟨n, rfl⟩ : ∃ n : Nat, st = n := ⟨st.toNat, by have := hM.1.1.2.1; omega⟩
    have hcl := clT_len n cs b s t hM'.2.1.2
    have ht60 := hM'.2.1
    simp only [↓vsd, vsn, gW, qd, qv, ev, pick, argE, zipE, ne_eq, eq_self, forall_const, implies_true, if_true, if_false, reduceIte, reduceCtorEq, Nat.reduceEqDiff, Nat.reduceAdd, Nat.reduceLT, ↓us_sFirstClash, r_sFirstClash, hM, h13.facts, h23.facts, fMg, fQg]
    refine m_call (sl9Heads_ok nm n v cs b s t hM'.1 hM'.2.1.2 _ (by first | exact h.ext hx13 | exact (h.ext hx13).ext (dr (Ext.refl _)))) ?_
    rintro y w6 hx6 ho6
    have hx6 : Ext w3 w6 := by first | exact hx6 | exact ud hx6 | exact ud (ud hx6)
    obtain ⟨hd, hoh, _⟩ := ho6.head .i64 t.length (by rw [headsP_len]; omega)
    rw [headsP_take] at hoh
    have hx16 := hx13.trans hx6
    simp only [↓vsd, vsn, gW, qd, qv, ev, pick, argE, zipE, ne_eq, eq_self, forall_const, implies_true, if_true, if_false, reduceIte, reduceCtorEq, Nat.reduceEqDiff, Nat.reduceAdd, Nat.reduceLT, ↓us_sFirstClash, r_sFirstClash, hd]
    refine m_call (sl11Clashes_ok nm n v _ cs _ hM'.1.1 (headsP_st hM'.1 t t.length) (by rw [headsP_len]; omega) _ (by first | exact h.ext hx16 | exact (h.ext hx16).ext (dr (Ext.refl _))) (by first | exact hoh.sq | exact hoh.sq.ext (dr (Ext.refl _)))) ?_
    rintro y w7 hx7 hN
    have hx7 : Ext w6 w7 := by first | exact hx7 | exact ud hx7 | exact ud (ud hx7)
    have hx17 := hx16.trans hx7
    have hN : Sq2 fI w7 y (clT n cs b s t) := hN.sq
    have hpr := prs_pr (clP n cs (headsP n cs b s t t.length)) (headsP n cs b s t t.length).length (headsP n cs b s t t.length).length
    have hpr : PrL (clT n cs b s t) := hpr
    generalize hC : clT n cs b s t = C at *
    simp only [↓vsd, vsn, gW, qd, qv, ev, pick, argE, zipE, ne_eq, eq_self, forall_const, implies_true, if_true, if_false, reduceIte, reduceCtorEq, Nat.reduceEqDiff, Nat.reduceAdd, Nat.reduceLT, ↓us_sFirstClash, r_sFirstClash, hN.facts]
    refine m_upto C.length (fun k vs w' => ∃ x, vs = [x, .int .i64 k] ∧ Sq fI 1 w' x (bst C k) ∧ Ext w7 w') ⟨_, rfl, Sq.nil fI_len, Ext.refl _⟩ ?_
    rintro k vs w8 hk ⟨x, rfl, hq, hx8⟩
    have hN8 := hN.ext hx8
    by_cases hlt : k < C.length
    · have hltI : (k : Int) < C.length := by omega
      have hltJ : ¬ (C.length : Int) ≤ k := by omega
      obtain ⟨z, hz, qz⟩ := hN8.at hlt
      have hb2 : bst C (k + 1) = if (bst C k).length = 0 ∨ (C.getD k []).getD 1 0 < (bst C k).getD 1 0 then C.getD k [] else bst C k := rfl
      have hl2 := hpr.1 k hlt
      have hk1 : (1 : Int) < (C.getD k []).length := by omega
      have z1 : ∀ kk : IntKind, ldV w8 (iaV 1 z (.int kk 1)) = .int .i64 ((C.getD k []).getD 1 0) ∧ ldD w8 (iaV 1 z (.int kk 1)) = True := qz.at1 0 (i := 1) (by omega)
      by_cases h0 : (bst C k).length = 0
      · have h0I : (((bst C k).length : Nat) : Int) = 0 := by omega
        rw [if_pos (.inl h0)] at hb2
        simp only [↓vsd, vsn, gW, qd, qv, ev, pick, argE, zipE, ne_eq, eq_self, forall_const, implies_true, if_true, if_false, reduceIte, reduceCtorEq, Nat.reduceEqDiff, Nat.reduceAdd, Nat.reduceLT, ↓us_sFirstClash, r_sFirstClash, hltI, hN8.facts, hz, hq.facts, h0I]
        exact ⟨by omega, inR_i64 (by omega), UpTo.next hlt ⟨z, rfl, by rw [hb2]; exact qz.ext (dr (Ext.refl _)), dr hx8⟩⟩
      · have h0I : ¬ (((bst C k).length : Nat) : Int) = 0 := by omega
        have hbl : (bst C k).length = 2 := by
          obtain ⟨k', rfl⟩ : ∃ k', k = k' + 1 := ⟨k - 1, by have : k ≠ 0 := fun e => h0 (by rw [e]; rfl)
                                                            omega⟩
          obtain ⟨i, hi, ei⟩ := bst_is (L := C) k'
          rw [ei]; exact hpr.1 i (by omega)
        have hb1 : (1 : Int) < (bst C k).length := by omega
        have x1 : ∀ kk : IntKind, ldV w8 (iaV 1 x (.int kk 1)) = .int .i64 ((bst C k).getD 1 0) ∧ ldD w8 (iaV 1 x (.int kk 1)) = True := hq.at1 0 (i := 1) (by omega)
        by_cases hc : (C.getD k []).getD 1 0 < (bst C k).getD 1 0
        · rw [if_pos (.inr hc)] at hb2
          simp only [↓vsd, vsn, gW, qd, qv, ev, pick, argE, zipE, ne_eq, eq_self, forall_const, implies_true, if_true, if_false, reduceIte, reduceCtorEq, Nat.reduceEqDiff, Nat.reduceAdd, Nat.reduceLT, ↓us_sFirstClash, r_sFirstClash, hltI, hN8.facts, hz, hq.facts, h0I, qz.facts, z1, x1, hc]
          exact ⟨by omega, by omega, by omega, inR_i64 (by omega), UpTo.next hlt ⟨z, rfl, by rw [hb2]; exact qz.ext (dr (Ext.refl _)), dr hx8⟩⟩
        · rw [if_neg (fun hh => hh.elim h0 hc)] at hb2
          simp only [↓vsd, vsn, gW, qd, qv, ev, pick, argE, zipE, ne_eq, eq_self, forall_const, implies_true, if_true, if_false, reduceIte, reduceCtorEq, Nat.reduceEqDiff, Nat.reduceAdd, Nat.reduceLT, ↓us_sFirstClash, r_sFirstClash, hltI, hN8.facts, hz, hq.facts, h0I, qz.facts, z1, x1, hc]
          exact ⟨by omega, by omega, by omega, inR_i64 (by omega), UpTo.next hlt ⟨x, rfl, by rw [hb2]; exact hq.ext (dr (Ext.refl _)), dr hx8⟩⟩
    · obtain rfl : k = C.length := by omega
      have hltI : ¬ (C.length : Int) < C.length := by omega
      simp only [↓vsd, vsn, gW, qd, qv, ev, pick, argE, zipE, ne_eq, eq_self, forall_const, implies_true, if_true, if_false, reduceIte, reduceCtorEq, Nat.reduceEqDiff, Nat.reduceAdd, Nat.reduceLT, ↓us_sFirstClash, r_sFirstClash, hltI, hq.facts]
      by_cases h0 : C.length = 0
      · have hf : ¬ FcOk nm n cs b s t := fun hh => hh.2 (by rw [Int.toNat_natCast, hC]; exact h0)
        have he : bst C C.length = [] := by rw [h0]; rfl
        refine ⟨hx17.trans hx8, x, by rw [decide_eq_false hf, he]; rfl, by rw [fcV, if_neg hf, ← he]; exact hq⟩
      · have hf : FcOk nm n cs b s t := ⟨hM', by rw [Int.toNat_natCast, hC]; exact h0⟩
        have hbl : (bst C C.length).length = 2 := by
          obtain ⟨k', hk'⟩ : ∃ k', C.length = k' + 1 := ⟨C.length - 1, by omega⟩
          obtain ⟨i, hi, ei⟩ := bst_is (L := C) k'
          rw [hk', ei]; exact hpr.1 i (by omega)
        refine ⟨hx17.trans hx8, x, by rw [decide_eq_true hf, decide_eq_true (show (0 : Int) < ((bst C C.length).length : Nat) by omega)], by rw [fcV, if_pos hf, Int.toNat_natCast, hC]; exact hq⟩
  · simp only [↓vsd, vsn, gW, qd, qv, ev, pick, argE, zipE, ne_eq, eq_self, forall_const, implies_true, if_true, if_false, reduceIte, reduceCtorEq, Nat.reduceEqDiff, Nat.reduceAdd, Nat.reduceLT, ↓us_sFirstClash, r_sFirstClash, hM]
    exact ⟨hx13, hno (fun hh => hM hh.1) _⟩
theorem lqSameP_ok (v u : Value) (A B : List (List Int)) (hl : A.length ≤ 1000000) (hs : ∀ x ∈ A, x.length ≤ 1000000) (w : World) (h : Sq2 fI w v A) (h' : Sq2 fI w u B) (he : A = B) : Fn 15 [v, u] w (fun r _ => r = .bool true) := by
  subst he
  (refine callsV_of mix Tryz.func15 c_lqSameP ?_; simp only [↓vsd, vsn, gW, qd, qv, ev, pick, argE, zipE, ne_eq, eq_self, forall_const, implies_true, if_true, if_false, reduceIte, reduceCtorEq, Nat.reduceEqDiff, Nat.reduceAdd, Nat.reduceLT, ↓us_lqSameP, r_lqSameP])
  simp only [↓vsd, vsn, gW, qd, qv, ev, pick, argE, zipE, ne_eq, eq_self, forall_const, implies_true, if_true, if_false, reduceIte, reduceCtorEq, Nat.reduceEqDiff, Nat.reduceAdd, Nat.reduceLT, ↓us_lqSameP, r_lqSameP, h.facts, h'.facts]
  refine m_upto A.length (fun k vs w' => vs = [.int .i64 k] ∧ Ext w w') ⟨rfl, Ext.refl _⟩ ?_
  rintro k vs w1 hk ⟨rfl, hx1⟩
  have hq := h.ext hx1
  have hq' := h'.ext hx1
  by_cases hlt : k < A.length
  · have hltI : (k : Int) < A.length := by omega
    have hltJ : ¬ (A.length : Int) ≤ k := by omega
    obtain ⟨y, hy, qy⟩ := hq.at hlt
    obtain ⟨z, hz, qz⟩ := hq'.at hlt
    have hyl := hs _ (getD_mem (l := A) (k := k) [] hlt)
    simp only [↓vsd, vsn, gW, qd, qv, ev, pick, argE, zipE, ne_eq, eq_self, forall_const, implies_true, if_true, if_false, reduceIte, reduceCtorEq, Nat.reduceEqDiff, Nat.reduceAdd, Nat.reduceLT, ↓us_lqSameP, r_lqSameP, hltI, hq.facts, hq'.facts, hy, hz]
    refine ⟨by omega, by omega, m_call (lqSameN_ok y z _ _ _ (by first | exact qy | exact qy.ext (dr (Ext.refl _))) (by first | exact qz | exact qz.ext (dr (Ext.refl _))) (by omega)) ?_⟩
    rintro _ w2 hx2 rfl
    have hx2 : Ext w1 w2 := by first | exact hx2 | exact ud hx2 | exact ud (ud hx2)
    simp only [↓vsd, vsn, gW, qd, qv, ev, pick, argE, zipE, ne_eq, eq_self, forall_const, implies_true, if_true, if_false, reduceIte, reduceCtorEq, Nat.reduceEqDiff, Nat.reduceAdd, Nat.reduceLT, ↓us_lqSameP, r_lqSameP]
    exact ⟨inR_i64 (by omega), UpTo.next hlt ⟨rfl, hx1.trans hx2⟩⟩
  · obtain rfl : k = A.length := by omega
    have hltI : ¬ (A.length : Int) < A.length := by omega
    simp only [↓vsd, vsn, gW, qd, qv, ev, pick, argE, zipE, ne_eq, eq_self, forall_const, implies_true, if_true, if_false, reduceIte, reduceCtorEq, Nat.reduceEqDiff, Nat.reduceAdd, Nat.reduceLT, ↓us_lqSameP, r_lqSameP, hltI]
    exact hx1
end Go.Proofs.YthopbkemkfjebaaGreat
