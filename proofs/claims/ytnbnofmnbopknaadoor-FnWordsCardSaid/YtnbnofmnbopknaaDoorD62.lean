/-
  The drawing of touches and of programs.
  Conditions: none.
-/
import Derived.Test.YtnbnofmnbopknaaDoorD2
set_option linter.unusedSimpArgs false
set_option linter.unusedVariables false
set_option linter.defProp false
namespace Go.Proofs.YtnbnofmnbopknaaDoor
open Go Go.RowKit
section
variable (P : Program) (k : KT) (e : Env) (w : World)
abbrev b52_1 : X := (.cond (.t 12) .skip (.exit 0))
def t52_1 := b52_1
theorem u52_1 : vcK P t52_1 k e w = vcK P b52_1 k e w := rfl
abbrev b52_2 : X := (.reg [0, 5, 6] (.c (.q 13 [] (.mv (.t 6))) (.c (.q 14 [] (.bin .sub (.t 13) (.c (.int .i64 1)))) (.c (.q 6 [] (.mv (.t 14))) .nil))))
def t52_2 := b52_2
theorem u52_2 : vcK P t52_2 k e w = vcK P b52_2 k e w := rfl
abbrev b52_3 : X := (.seq (.blk 1 (.reg [0, 5, 6] (.c (.q 15 [] (.mv (.t 5))) (.c (.q 16 [] (.mv (.t 0))) (.c (.e (some 17) [] (.bsl 9 1 [(.s [112]), (.s [112]), (.s [98]), (.s [115]), (.s [98])])) (.c (.e (some 18) [] (.call true 51 [(.t 16), (.t 17)])) (.c (.q 19 [] (.bin .add (.t 15) (.t 18))) (.c (.q 5 [] (.mv (.t 19))) .nil)))))))) t52_2)
def t52_3 := b52_3
theorem u52_3 : vcK P t52_3 k e w = vcK P b52_3 k e w := rfl
abbrev b52_4 : X := (.seq (.seq (.reg [0, 5, 6, 12] (.c (.q 11 [] (.mv (.t 6))) (.c (.q 12 [] (.bin .gtr (.t 11) (.c (.int .i64 0)))) .nil))) t52_1) t52_3)
def t52_4 := b52_4
theorem u52_4 : vcK P t52_4 k e w = vcK P b52_4 k e w := rfl
abbrev b52_5 : X := (.blk 0 (.loop [5, 6] [0] t52_4))
def t52_5 := b52_5
theorem u52_5 : vcK P t52_5 k e w = vcK P b52_5 k e w := rfl
abbrev b52_6 : X := (.cond (.t 21) (.reg [5] (.c (.q 22 [] (.mv (.t 5))) (.c (.q 23 [] (.mv (.t 5))) (.c (.q 24 [] (.bin .add (.t 22) (.t 23))) (.c (.q 5 [] (.mv (.t 24))) .nil))))) .skip)
def t52_6 := b52_6
theorem u52_6 : vcK P t52_6 k e w = vcK P b52_6 k e w := rfl
abbrev b52_7 : X := (.seq (.reg [4] (.c (.q 25 [] (.mv (.t 5))) (.c (.q 4 [] (.mv (.t 25))) .nil))) .ret)
def t52_7 := b52_7
theorem u52_7 : vcK P t52_7 k e w = vcK P b52_7 k e w := rfl
abbrev b52_8 : X := (.seq (.seq (.reg [5, 21] (.c (.q 20 [] (.mv (.t 0))) (.c (.e (some 21) [] (.call true 28 [(.t 20), (.c (.int .i64 3))])) .nil))) t52_6) t52_7)
def t52_8 := b52_8
theorem u52_8 : vcK P t52_8 k e w = vcK P b52_8 k e w := rfl
abbrev b52_9 : X := (.seq (.seq (.reg [0, 5, 6] (.c (.q 7 [] (.mv (.t 0))) (.c (.q 8 [] (.mv (.t 1))) (.c (.e (some 9) [] (.call true 46 [(.t 7), (.t 8)])) (.c (.q 10 [] (.bin .add (.c (.int .i64 1)) (.t 9))) (.c (.q 6 [] (.mv (.t 10))) .nil)))))) t52_5) t52_8)
def t52_9 := b52_9
theorem u52_9 : vcK P t52_9 k e w = vcK P b52_9 k e w := rfl
abbrev b52_10 : X := (.seq (.reg [0, 1, 5] (.c (.q 5 [] (.mv (.s []))) .nil)) t52_9)
def t52_10 := b52_10
theorem u52_10 : vcK P t52_10 k e w = vcK P b52_10 k e w := rfl
abbrev b52_0 : X := (.seq (.reg [0, 1] (.c (.q 4 [] (.mv (.s []))) .nil)) t52_10)
def x_sl1Cur_touch := b52_0
theorem u52_0 : vcK P x_sl1Cur_touch k e w = vcK P b52_0 k e w := rfl
def r_sl1Cur_touch : List XO := [(.mv (.t 4))]
theorem c_sl1Cur_touch : convF Tryd.prog [27, 28, 29, 30, 32, 36, 40, 45, 46, 47, 50, 51, 52, 61, 62, 98] Tryd.f52 [([0, 1], []), ([0, 1, 5], []), ([0, 5, 6], []), ([5, 6], [0]), ([0, 5, 6, 12], []), ([0, 5, 6], []), ([0, 5, 6], []), ([5, 21], []), ([5], []), ([4], [])] = some (x_sl1Cur_touch, r_sl1Cur_touch) := by kernel_rfl
def us_sl1Cur_touch :=  (aI (aI (aI @u52_0 @u52_1) (aI @u52_2 (aI @u52_3 @u52_4))) (aI (aI @u52_5 (aI @u52_6 @u52_7)) (aI @u52_8 (aI @u52_9 @u52_10))))
abbrev b40_1 : X := (.cond (.t 18) .skip (.exit 1))
def t40_1 := b40_1
theorem u40_1 : vcK P t40_1 k e w = vcK P b40_1 k e w := rfl
abbrev b40_2 : X := (.reg [0, 3, 4] (.c (.q 19 [] (.mv (.t 4))) (.c (.q 20 [] (.bin .sub (.t 19) (.c (.int .i64 1)))) (.c (.q 4 [] (.mv (.t 20))) .nil))))
def t40_2 := b40_2
theorem u40_2 : vcK P t40_2 k e w = vcK P b40_2 k e w := rfl
abbrev b40_3 : X := (.seq (.blk 2 (.reg [0, 3, 4] (.c (.q 21 [] (.mv (.t 3))) (.c (.q 22 [] (.mv (.t 0))) (.c (.e (some 23) [] (.bsl 9 1 [(.s [112]), (.s [98]), (.s [115])])) (.c (.e (some 24) [] (.call true 51 [(.t 22), (.t 23)])) (.c (.q 25 [] (.bin .add (.t 21) (.t 24))) (.c (.q 3 [] (.mv (.t 25))) .nil)))))))) t40_2)
def t40_3 := b40_3
theorem u40_3 : vcK P t40_3 k e w = vcK P b40_3 k e w := rfl
abbrev b40_4 : X := (.seq (.seq (.reg [0, 3, 4, 18] (.c (.q 17 [] (.mv (.t 4))) (.c (.q 18 [] (.bin .gtr (.t 17) (.c (.int .i64 0)))) .nil))) t40_1) t40_3)
def t40_4 := b40_4
theorem u40_4 : vcK P t40_4 k e w = vcK P b40_4 k e w := rfl
abbrev b40_5 : X := (.blk 1 (.loop [3, 4] [0] t40_4))
def t40_5 := b40_5
theorem u40_5 : vcK P t40_5 k e w = vcK P b40_5 k e w := rfl
abbrev b40_6 : X := (.seq (.reg [2] (.c (.q 26 [] (.mv (.t 3))) (.c (.q 2 [] (.mv (.t 26))) .nil))) .ret)
def t40_6 := b40_6
theorem u40_6 : vcK P t40_6 k e w = vcK P b40_6 k e w := rfl
abbrev b40_7 : X := (.seq (.seq (.reg [0, 3, 4] (.c (.q 14 [] (.mv (.t 0))) (.c (.e (some 15) [] (.bsl 3 1 [(.c (.int .i64 59)), (.c (.int .i64 60)), (.c (.int .i64 61))])) (.c (.e (some 16) [] (.call true 30 [(.t 14), (.t 15)])) (.c (.q 4 [] (.mv (.t 16))) .nil))))) t40_5) t40_6)
def t40_7 := b40_7
theorem u40_7 : vcK P t40_7 k e w = vcK P b40_7 k e w := rfl
abbrev b40_8 : X := (.cond (.t 12) (.seq (.reg [0, 3] (.c (.q 3 [] (.mv (.s []))) .nil)) t40_7) .skip)
def t40_8 := b40_8
theorem u40_8 : vcK P t40_8 k e w = vcK P b40_8 k e w := rfl
abbrev b40_9 : X := (.cond (.t 7) (.seq (.reg [2] (.c (.q 9 [] (.mv (.t 0))) (.c (.e (some 10) [] (.bsl 9 1 [(.s []), (.s [120]), (.s [112, 66]), (.s [112, 32, 98])])) (.c (.e (some 11) [] (.call true 51 [(.t 9), (.t 10)])) (.c (.q 2 [] (.mv (.t 11))) .nil))))) .ret) (.seq (.reg [0, 12] (.c (.q 13 [] (.bin .eql (.t 6) (.c (.int .i64 1)))) (.c (.q 12 [] (.mv (.t 13))) .nil))) t40_8))
def t40_9 := b40_9
theorem u40_9 : vcK P t40_9 k e w = vcK P b40_9 k e w := rfl
abbrev b40_10 : X := (.blk 0 (.seq (.reg [0, 6, 7] (.c (.q 8 [] (.bin .eql (.t 6) (.c (.int .i64 0)))) (.c (.q 7 [] (.mv (.t 8))) .nil))) t40_9))
def t40_10 := b40_10
theorem u40_10 : vcK P t40_10 k e w = vcK P b40_10 k e w := rfl
abbrev b40_11 : X := (.seq (.reg [2] (.c (.q 27 [] (.mv (.t 0))) (.c (.e (some 28) [] (.call true 52 [(.t 27), (.c (.int .i64 9))])) (.c (.q 2 [] (.mv (.t 28))) .nil)))) .ret)
def t40_11 := b40_11
theorem u40_11 : vcK P t40_11 k e w = vcK P b40_11 k e w := rfl
abbrev b40_12 : X := (.seq (.seq (.reg [0, 6] (.c (.q 5 [] (.mv (.t 0))) (.c (.e (some 6) [] (.call true 46 [(.t 5), (.c (.int .i64 16))])) .nil))) t40_10) t40_11)
def t40_12 := b40_12
theorem u40_12 : vcK P t40_12 k e w = vcK P b40_12 k e w := rfl
abbrev b40_0 : X := (.seq (.reg [0] (.c (.q 2 [] (.mv (.s []))) .nil)) t40_12)
def x_sl1Cur_anyTouch := b40_0
theorem u40_0 : vcK P x_sl1Cur_anyTouch k e w = vcK P b40_0 k e w := rfl
def r_sl1Cur_anyTouch : List XO := [(.mv (.t 2))]
theorem c_sl1Cur_anyTouch : convF Tryd.prog [27, 28, 29, 30, 32, 36, 40, 45, 46, 47, 50, 51, 52, 61, 62, 98] Tryd.f40 [([0], []), ([0, 6], []), ([0, 6, 7], []), ([2], []), ([0, 12], []), ([0, 3], []), ([0, 3, 4], []), ([3, 4], [0]), ([0, 3, 4, 18], []), ([0, 3, 4], []), ([0, 3, 4], []), ([2], []), ([2], [])] = some (x_sl1Cur_anyTouch, r_sl1Cur_anyTouch) := by kernel_rfl
def us_sl1Cur_anyTouch :=  (aI (aI (aI @u40_0 (aI @u40_1 @u40_2)) (aI @u40_3 (aI @u40_4 @u40_5))) (aI (aI @u40_6 (aI @u40_7 @u40_8)) (aI (aI @u40_9 @u40_10) (aI @u40_11 @u40_12))))
abbrev b23_1 : X := (.seq (.reg [2] (.c (.q 7 [] (.mv (.t 3))) (.c (.e (some 8) [] (.call true 40 [(.t 7)])) (.c (.q 2 [] (.mv (.t 8))) .nil)))) .ret)
def t23_1 := b23_1
theorem u23_1 : vcK P t23_1 k e w = vcK P b23_1 k e w := rfl
abbrev b23_2 : X := (.seq (.reg [3] (.c (.q 4 [] (.mv (.t 0))) (.c (.q 5 [] (.bld [(.slice none 0 0), (.int .i64 0), (.int .u64 0)] [(0, 0, (.t 4))])) (.c (.e (some 6) [] (.box 52 (.t 5))) (.c (.q 3 [] (.mv (.t 6))) .nil))))) t23_1)
def t23_2 := b23_2
theorem u23_2 : vcK P t23_2 k e w = vcK P b23_2 k e w := rfl
abbrev b23_0 : X := (.seq (.reg [0] (.c (.q 2 [] (.mv (.s []))) .nil)) t23_2)
def x_sDrawGoodTouch := b23_0
theorem u23_0 : vcK P x_sDrawGoodTouch k e w = vcK P b23_0 k e w := rfl
def r_sDrawGoodTouch : List XO := [(.mv (.t 2))]
theorem c_sDrawGoodTouch : convF Tryd.prog [27, 28, 29, 30, 32, 36, 40, 45, 46, 47, 50, 51, 52, 61, 62, 98] Tryd.f23 [([0], []), ([3], []), ([2], [])] = some (x_sDrawGoodTouch, r_sDrawGoodTouch) := by kernel_rfl
def us_sDrawGoodTouch :=  (aI @u23_0 (aI @u23_1 @u23_2))
abbrev b11_1 : X := (.seq (.reg [2] (.c (.q 3 [] (.mv (.t 0))) (.c (.e (some 4) [] (.call false 23 [(.t 3)])) (.c (.q 2 [] (.mv (.t 4))) .nil)))) .ret)
def t11_1 := b11_1
theorem u11_1 : vcK P t11_1 k e w = vcK P b11_1 k e w := rfl
abbrev b11_0 : X := (.seq (.reg [0] (.c (.q 2 [] (.mv (.s []))) .nil)) t11_1)
def x_sDrawPrintParts := b11_0
theorem u11_0 : vcK P x_sDrawPrintParts k e w = vcK P b11_0 k e w := rfl
def r_sDrawPrintParts : List XO := [(.mv (.t 2))]
theorem c_sDrawPrintParts : convF Tryd.prog [27, 28, 29, 30, 32, 36, 40, 45, 46, 47, 50, 51, 52, 61, 62, 98] Tryd.f11 [([0], []), ([2], [])] = some (x_sDrawPrintParts, r_sDrawPrintParts) := by kernel_rfl
def us_sDrawPrintParts :=  (aI @u11_0 @u11_1)
abbrev b45_1 : X := (.cond (.t 13) .skip (.exit 0))
def t45_1 := b45_1
theorem u45_1 : vcK P t45_1 k e w = vcK P b45_1 k e w := rfl
abbrev b45_2 : X := (.cond (.t 41) (.reg [0, 1, 2, 7, 8] (.c (.q 49 [] (.mv (.t 7))) (.c (.q 50 [] (.mv (.t 0))) (.c (.q 51 [] (.mv (.t 1))) (.c (.e (some 52) [] (.call true 51 [(.t 50), (.t 51)])) (.c (.q 53 [] (.bin .add (.t 49) (.t 52))) (.c (.q 7 [] (.mv (.t 53))) .nil))))))) (.reg [0, 1, 2, 7, 8] (.c (.q 16 [] (.mv (.t 7))) (.c (.q 17 [] (.mv (.t 0))) (.c (.e (some 18) [] (.bsl 9 1 [(.s [112]), (.s [98]), (.s [115])])) (.c (.e (some 19) [] (.call true 51 [(.t 17), (.t 18)])) (.c (.q 20 [] (.bin .add (.t 16) (.t 19))) (.c (.q 7 [] (.mv (.t 20))) .nil))))))))
def t45_2 := b45_2
theorem u45_2 : vcK P t45_2 k e w = vcK P b45_2 k e w := rfl
abbrev b45_3 : X := (.cond (.t 21) (.reg [0, 1, 2, 7, 8] (.c (.q 28 [] (.mv (.t 7))) (.c (.q 29 [] (.mv (.t 0))) (.c (.q 30 [] (.mv (.t 1))) (.c (.q 31 [] (.mv (.t 2))) (.c (.q 32 [] (.bin .sub (.t 31) (.c (.int .i64 1)))) (.c (.e (some 33) [] (.call true 45 [(.t 29), (.t 30), (.t 32)])) (.c (.q 34 [] (.bin .add (.s [40]) (.t 33))) (.c (.q 35 [] (.bin .add (.t 34) (.s [41]))) (.c (.q 36 [] (.mv (.t 0))) (.c (.e (some 37) [] (.bsl 9 1 [(.s [50]), (.s [51]), (.s [57])])) (.c (.e (some 38) [] (.call true 51 [(.t 36), (.t 37)])) (.c (.q 39 [] (.bin .add (.t 35) (.t 38))) (.c (.q 40 [] (.bin .add (.t 28) (.t 39))) (.c (.q 7 [] (.mv (.t 40))) .nil))))))))))))))) (.seq (.reg [0, 1, 2, 7, 8, 41] (.c (.q 42 [] (.mv (.t 1))) (.c (.q 43 [] (.lens (.t 42))) (.c (.q 44 [] (.bin .gtr (.t 43) (.c (.int .i64 0)))) (.c (.q 45 [] (.mv (.t 44))) (.c (.q 46 [(45, true)] (.mv (.t 0))) (.c (.e (some 47) [(45, true)] (.call true 28 [(.t 46), (.c (.int .i64 3))])) (.c (.q 48 [] (.pick (.t 45) (.t 47) (.c (.bool false)))) (.c (.q 41 [] (.mv (.t 48))) .nil))))))))) t45_2))
def t45_3 := b45_3
theorem u45_3 : vcK P t45_3 k e w = vcK P b45_3 k e w := rfl
abbrev b45_4 : X := (.reg [0, 1, 2, 7, 8] (.c (.q 14 [] (.mv (.t 8))) (.c (.q 15 [] (.bin .sub (.t 14) (.c (.int .i64 1)))) (.c (.q 8 [] (.mv (.t 15))) .nil))))
def t45_4 := b45_4
theorem u45_4 : vcK P t45_4 k e w = vcK P b45_4 k e w := rfl
abbrev b45_5 : X := (.seq (.blk 1 (.blk 2 (.seq (.reg [0, 1, 2, 7, 8, 21] (.c (.q 22 [] (.mv (.t 2))) (.c (.q 23 [] (.bin .gtr (.t 22) (.c (.int .i64 0)))) (.c (.q 24 [] (.mv (.t 23))) (.c (.q 25 [(24, true)] (.mv (.t 0))) (.c (.e (some 26) [(24, true)] (.call true 28 [(.t 25), (.c (.int .i64 4))])) (.c (.q 27 [] (.pick (.t 24) (.t 26) (.c (.bool false)))) (.c (.q 21 [] (.mv (.t 27))) .nil)))))))) t45_3))) t45_4)
def t45_5 := b45_5
theorem u45_5 : vcK P t45_5 k e w = vcK P b45_5 k e w := rfl
abbrev b45_6 : X := (.seq (.seq (.reg [0, 1, 2, 7, 8, 13] (.c (.q 12 [] (.mv (.t 8))) (.c (.q 13 [] (.bin .gtr (.t 12) (.c (.int .i64 0)))) .nil))) t45_1) t45_5)
def t45_6 := b45_6
theorem u45_6 : vcK P t45_6 k e w = vcK P b45_6 k e w := rfl
abbrev b45_7 : X := (.blk 0 (.loop [7, 8] [0, 1, 2] t45_6))
def t45_7 := b45_7
theorem u45_7 : vcK P t45_7 k e w = vcK P b45_7 k e w := rfl
abbrev b45_8 : X := (.seq (.reg [6] (.c (.q 54 [] (.mv (.t 7))) (.c (.q 6 [] (.mv (.t 54))) .nil))) .ret)
def t45_8 := b45_8
theorem u45_8 : vcK P t45_8 k e w = vcK P b45_8 k e w := rfl
abbrev b45_9 : X := (.seq (.seq (.reg [0, 1, 2, 7, 8] (.c (.q 9 [] (.mv (.t 0))) (.c (.e (some 10) [] (.call true 46 [(.t 9), (.c (.int .i64 4))])) (.c (.q 11 [] (.bin .add (.c (.int .i64 1)) (.t 10))) (.c (.q 8 [] (.mv (.t 11))) .nil))))) t45_7) t45_8)
def t45_9 := b45_9
theorem u45_9 : vcK P t45_9 k e w = vcK P b45_9 k e w := rfl
abbrev b45_10 : X := (.seq (.reg [0, 1, 2, 7] (.c (.q 7 [] (.mv (.s []))) .nil)) t45_9)
def t45_10 := b45_10
theorem u45_10 : vcK P t45_10 k e w = vcK P b45_10 k e w := rfl
abbrev b45_0 : X := (.seq (.reg [0, 1, 2] (.c (.q 6 [] (.mv (.s []))) .nil)) t45_10)
def x_sl1Cur_block := b45_0
theorem u45_0 : vcK P x_sl1Cur_block k e w = vcK P b45_0 k e w := rfl
def r_sl1Cur_block : List XO := [(.mv (.t 6))]
theorem c_sl1Cur_block : convF Tryd.prog [27, 28, 29, 30, 32, 36, 40, 45, 46, 47, 50, 51, 52, 61, 62, 98] Tryd.f45 [([0, 1, 2], []), ([0, 1, 2, 7], []), ([0, 1, 2, 7, 8], []), ([7, 8], [0, 1, 2]), ([0, 1, 2, 7, 8, 13], []), ([0, 1, 2, 7, 8, 21], []), ([0, 1, 2, 7, 8], []), ([0, 1, 2, 7, 8, 41], []), ([0, 1, 2, 7, 8], []), ([0, 1, 2, 7, 8], []), ([0, 1, 2, 7, 8], []), ([6], [])] = some (x_sl1Cur_block, r_sl1Cur_block) := by kernel_rfl
def us_sl1Cur_block :=  (aI (aI (aI @u45_0 @u45_1) (aI @u45_2 (aI @u45_3 @u45_4))) (aI (aI @u45_5 (aI @u45_6 @u45_7)) (aI @u45_8 (aI @u45_9 @u45_10))))
abbrev b27_1 : X := (.reg [0, 3, 4, 7, 8, 9] (.c (.q 24 [] (.mv (.t 4))) (.c (.q 25 [] (.mv (.t 6))) (.c (.e (some 26) [] (.bsl 9 1 [(.t 25)])) (.c (.e (some 27) [] (.app 26 9 1 16 [(S [])] 26 (.t 24) (.t 26))) (.c (.q 4 [] (.mv (.t 27))) .nil))))))
def t27_1 := b27_1
theorem u27_1 : vcK P t27_1 k e w = vcK P b27_1 k e w := rfl
abbrev b27_2 : X := (.cond (.t 14) (.seq (.reg [0, 3, 4, 6, 7, 8, 9] (.c (.q 15 [] (.mv (.t 3))) (.c (.q 16 [] (.mv (.t 6))) (.c (.q 17 [] (.bin .add (.t 16) (.s [61]))) (.c (.q 18 [] (.mv (.t 0))) (.c (.q 19 [] (.mv (.t 4))) (.c (.e (some 20) [] (.call true 45 [(.t 18), (.t 19), (.c (.int .i64 1))])) (.c (.q 21 [] (.bin .add (.t 17) (.t 20))) (.c (.q 22 [] (.bin .add (.t 21) (.s [59]))) (.c (.q 23 [] (.bin .add (.t 15) (.t 22))) (.c (.q 3 [] (.mv (.t 23))) .nil))))))))))) t27_1) .skip)
def t27_2 := b27_2
theorem u27_2 : vcK P t27_2 k e w = vcK P b27_2 k e w := rfl
abbrev b27_3 : X := (.seq (.reg [0, 3, 4, 6, 7, 8, 9, 14] (.c (.q 13 [] (.mv (.t 0))) (.c (.e (some 14) [] (.call true 28 [(.t 13), (.c (.int .i64 2))])) .nil))) t27_2)
def t27_3 := b27_3
theorem u27_3 : vcK P t27_3 k e w = vcK P b27_3 k e w := rfl
abbrev b27_4 : X := (.reg [0, 3, 4, 7, 8, 9] (.c (.q 28 [] (.bin .add (.t 9) (.c (.int .i64 1)))) (.c (.q 9 [] (.mv (.t 28))) .nil)))
def t27_4 := b27_4
theorem u27_4 : vcK P t27_4 k e w = vcK P b27_4 k e w := rfl
abbrev b27_5 : X := (.seq (.blk 1 (.seq (.reg [0, 3, 4, 6, 7, 8, 9] (.c (.q 11 [] (.ia 1 (.t 7) (.t 9))) (.c (.q 12 [] (.ld (.t 11))) (.c (.q 6 [] (.mv (.t 12))) .nil)))) t27_3)) t27_4)
def t27_5 := b27_5
theorem u27_5 : vcK P t27_5 k e w = vcK P b27_5 k e w := rfl
abbrev b27_6 : X := (.seq (.cond (.t 10) .skip (.exit 0)) t27_5)
def t27_6 := b27_6
theorem u27_6 : vcK P t27_6 k e w = vcK P b27_6 k e w := rfl
abbrev b27_7 : X := (.seq (.reg [0, 3, 4, 7, 8, 9, 10] (.c (.q 10 [] (.bin .lss (.t 9) (.t 8))) .nil)) t27_6)
def t27_7 := b27_7
theorem u27_7 : vcK P t27_7 k e w = vcK P b27_7 k e w := rfl
abbrev b27_8 : X := (.blk 0 (.loop [3, 4, 9] [0, 7, 8] t27_7))
def t27_8 := b27_8
theorem u27_8 : vcK P t27_8 k e w = vcK P b27_8 k e w := rfl
abbrev b27_9 : X := (.seq (.reg [2] (.c (.q 29 [] (.mv (.t 3))) (.c (.q 30 [] (.mv (.t 0))) (.c (.q 31 [] (.mv (.t 4))) (.c (.e (some 32) [] (.call true 45 [(.t 30), (.t 31), (.c (.int .i64 2))])) (.c (.q 33 [] (.bin .add (.t 29) (.t 32))) (.c (.q 2 [] (.mv (.t 33))) .nil))))))) .ret)
def t27_9 := b27_9
theorem u27_9 : vcK P t27_9 k e w = vcK P b27_9 k e w := rfl
abbrev b27_10 : X := (.seq (.seq (.reg [0, 3, 4, 7, 8, 9] (.c (.e (some 7) [] (.bsl 9 1 [(.s [65]), (.s [88]), (.s [66])])) (.c (.q 8 [] (.lens (.t 7))) (.c (.q 9 [] (.mv (.c (.int .i64 0)))) .nil)))) t27_8) t27_9)
def t27_10 := b27_10
theorem u27_10 : vcK P t27_10 k e w = vcK P b27_10 k e w := rfl
abbrev b27_11 : X := (.seq (.reg [0, 3, 4] (.c (.q 4 [] (.mv (.c (.slice none 0 0)))) .nil)) t27_10)
def t27_11 := b27_11
theorem u27_11 : vcK P t27_11 k e w = vcK P b27_11 k e w := rfl
abbrev b27_12 : X := (.seq (.reg [0, 3] (.c (.q 3 [] (.mv (.s []))) .nil)) t27_11)
def t27_12 := b27_12
theorem u27_12 : vcK P t27_12 k e w = vcK P b27_12 k e w := rfl
abbrev b27_0 : X := (.seq (.reg [0] (.c (.q 2 [] (.mv (.s []))) .nil)) t27_12)
def x_sl1Cur_words := b27_0
theorem u27_0 : vcK P x_sl1Cur_words k e w = vcK P b27_0 k e w := rfl
def r_sl1Cur_words : List XO := [(.mv (.t 2))]
theorem c_sl1Cur_words : convF Tryd.prog [27, 28, 29, 30, 32, 36, 40, 45, 46, 47, 50, 51, 52, 61, 62, 98] Tryd.f27 [([0], []), ([0, 3], []), ([0, 3, 4], []), ([0, 3, 4, 7, 8, 9], []), ([3, 4, 9], [0, 7, 8]), ([0, 3, 4, 7, 8, 9, 10], []), ([0, 3, 4, 6, 7, 8, 9], []), ([0, 3, 4, 6, 7, 8, 9, 14], []), ([0, 3, 4, 6, 7, 8, 9], []), ([0, 3, 4, 7, 8, 9], []), ([0, 3, 4, 7, 8, 9], []), ([2], [])] = some (x_sl1Cur_words, r_sl1Cur_words) := by kernel_rfl
def us_sl1Cur_words :=  (aI (aI (aI @u27_0 (aI @u27_1 @u27_2)) (aI @u27_3 (aI @u27_4 @u27_5))) (aI (aI @u27_6 (aI @u27_7 @u27_8)) (aI (aI @u27_9 @u27_10) (aI @u27_11 @u27_12))))
abbrev b18_1 : X := (.cond (.t 12) (.reg [3, 4] (.c (.q 13 [] (.mv (.t 3))) (.c (.q 14 [] (.mv (.t 4))) (.c (.e (some 15) [] (.call true 29 [(.t 13), (.t 14), (.s [112, 98, 115, 40, 41, 61, 59, 65, 50, 57])])) (.c (.q 4 [] (.mv (.t 15))) .nil))))) .skip)
def t18_1 := b18_1
theorem u18_1 : vcK P t18_1 k e w = vcK P b18_1 k e w := rfl
abbrev b18_2 : X := (.cond (.t 22) .skip (.exit 0))
def t18_2 := b18_2
theorem u18_2 : vcK P t18_2 k e w = vcK P b18_2 k e w := rfl
abbrev b18_3 : X := (.reg [4, 5] (.c (.q 23 [] (.mv (.t 5))) (.c (.q 24 [] (.bin .sub (.t 23) (.c (.int .i64 1)))) (.c (.q 5 [] (.mv (.t 24))) .nil))))
def t18_3 := b18_3
theorem u18_3 : vcK P t18_3 k e w = vcK P b18_3 k e w := rfl
abbrev b18_4 : X := (.seq (.blk 1 (.reg [4, 5] (.c (.q 25 [] (.mv (.t 4))) (.c (.q 26 [] (.bin .add (.t 25) (.s [112]))) (.c (.q 4 [] (.mv (.t 26))) .nil))))) t18_3)
def t18_4 := b18_4
theorem u18_4 : vcK P t18_4 k e w = vcK P b18_4 k e w := rfl
abbrev b18_5 : X := (.seq (.seq (.reg [4, 5, 22] (.c (.q 21 [] (.mv (.t 5))) (.c (.q 22 [] (.bin .gtr (.t 21) (.c (.int .i64 0)))) .nil))) t18_2) t18_4)
def t18_5 := b18_5
theorem u18_5 : vcK P t18_5 k e w = vcK P b18_5 k e w := rfl
abbrev b18_6 : X := (.blk 0 (.loop [4, 5] [] t18_5))
def t18_6 := b18_6
theorem u18_6 : vcK P t18_6 k e w = vcK P b18_6 k e w := rfl
abbrev b18_7 : X := (.seq (.reg [4, 5] (.c (.q 18 [] (.mv (.t 3))) (.c (.e (some 19) [] (.bsl 3 1 [(.c (.int .i64 200)), (.c (.int .i64 201))])) (.c (.e (some 20) [] (.call true 30 [(.t 18), (.t 19)])) (.c (.q 5 [] (.mv (.t 20))) .nil))))) t18_6)
def t18_7 := b18_7
theorem u18_7 : vcK P t18_7 k e w = vcK P b18_7 k e w := rfl
abbrev b18_8 : X := (.cond (.t 17) (.seq (.reg [3, 4] (.c (.q 4 [] (.mv (.s []))) .nil)) t18_7) .skip)
def t18_8 := b18_8
theorem u18_8 : vcK P t18_8 k e w = vcK P b18_8 k e w := rfl
abbrev b18_9 : X := (.seq (.reg [2] (.c (.q 27 [] (.mv (.t 4))) (.c (.q 2 [] (.mv (.t 27))) .nil))) .ret)
def t18_9 := b18_9
theorem u18_9 : vcK P t18_9 k e w = vcK P b18_9 k e w := rfl
abbrev b18_10 : X := (.seq (.seq (.reg [3, 4, 17] (.c (.q 16 [] (.mv (.t 3))) (.c (.e (some 17) [] (.call true 28 [(.t 16), (.c (.int .i64 30))])) .nil))) t18_8) t18_9)
def t18_10 := b18_10
theorem u18_10 : vcK P t18_10 k e w = vcK P b18_10 k e w := rfl
abbrev b18_11 : X := (.seq (.seq (.reg [3, 4, 12] (.c (.q 11 [] (.mv (.t 3))) (.c (.e (some 12) [] (.call true 28 [(.t 11), (.c (.int .i64 3))])) .nil))) t18_1) t18_10)
def t18_11 := b18_11
theorem u18_11 : vcK P t18_11 k e w = vcK P b18_11 k e w := rfl
abbrev b18_12 : X := (.seq (.reg [3, 4] (.c (.q 9 [] (.mv (.t 3))) (.c (.e (some 10) [] (.call true 27 [(.t 9)])) (.c (.q 4 [] (.mv (.t 10))) .nil)))) t18_11)
def t18_12 := b18_12
theorem u18_12 : vcK P t18_12 k e w = vcK P b18_12 k e w := rfl
abbrev b18_13 : X := (.seq (.reg [3] (.c (.q 6 [] (.mv (.t 0))) (.c (.q 7 [] (.bld [(.slice none 0 0), (.int .i64 0), (.int .u64 0)] [(0, 0, (.t 6))])) (.c (.e (some 8) [] (.box 52 (.t 7))) (.c (.q 3 [] (.mv (.t 8))) .nil))))) t18_12)
def t18_13 := b18_13
theorem u18_13 : vcK P t18_13 k e w = vcK P b18_13 k e w := rfl
abbrev b18_0 : X := (.seq (.reg [0] (.c (.q 2 [] (.mv (.s []))) .nil)) t18_13)
def x_sDrawIsWords := b18_0
theorem u18_0 : vcK P x_sDrawIsWords k e w = vcK P b18_0 k e w := rfl
def r_sDrawIsWords : List XO := [(.mv (.t 2))]
theorem c_sDrawIsWords : convF Tryd.prog [27, 28, 29, 30, 32, 36, 40, 45, 46, 47, 50, 51, 52, 61, 62, 98] Tryd.f18 [([0], []), ([3], []), ([3, 4], []), ([3, 4, 12], []), ([3, 4], []), ([3, 4, 17], []), ([3, 4], []), ([4, 5], []), ([4, 5], []), ([4, 5, 22], []), ([4, 5], []), ([4, 5], []), ([2], [])] = some (x_sDrawIsWords, r_sDrawIsWords) := by kernel_rfl
def us_sDrawIsWords :=  (aI (aI (aI @u18_0 (aI @u18_1 @u18_2)) (aI (aI @u18_3 @u18_4) (aI @u18_5 @u18_6))) (aI (aI @u18_7 (aI @u18_8 @u18_9)) (aI (aI @u18_10 @u18_11) (aI @u18_12 @u18_13))))
abbrev b4_1 : X := (.seq (.reg [2] (.c (.q 3 [] (.mv (.t 0))) (.c (.e (some 4) [] (.call false 18 [(.t 3)])) (.c (.q 2 [] (.mv (.t 4))) .nil)))) .ret)
def t4_1 := b4_1
theorem u4_1 : vcK P t4_1 k e w = vcK P b4_1 k e w := rfl
abbrev b4_0 : X := (.seq (.reg [0] (.c (.q 2 [] (.mv (.s []))) .nil)) t4_1)
def x_sDrawCompileWords := b4_0
theorem u4_0 : vcK P x_sDrawCompileWords k e w = vcK P b4_0 k e w := rfl
def r_sDrawCompileWords : List XO := [(.mv (.t 2))]
theorem c_sDrawCompileWords : convF Tryd.prog [27, 28, 29, 30, 32, 36, 40, 45, 46, 47, 50, 51, 52, 61, 62, 98] Tryd.f4 [([0], []), ([2], [])] = some (x_sDrawCompileWords, r_sDrawCompileWords) := by kernel_rfl
def us_sDrawCompileWords :=  (aI @u4_0 @u4_1)
end

theorem sl1Cur_touch_ok (W : World) (b n m : Nat) (hm : m ≤ 100) (w : World) (hn : n ≤ 700000000) (hc : Cur W b n w) : CurFn 52 [cV b, .int .i64 m] W b n 300 w (fun r _ => ∃ x, r = S x ∧ x.length ≤ 2 * (m + 1)) := by
  (refine callsV_of mix Tryd.func52 c_sl1Cur_touch ?_; simp only [↓vsd, vsn, gW, qd, qv, ev, pick, argE, zipE, ne_eq, eq_self, forall_const, implies_true, if_true, if_false, reduceIte, reduceCtorEq, Nat.reduceEqDiff, Nat.reduceAdd, Nat.reduceLT, ↓us_sl1Cur_touch, r_sl1Cur_touch])
  refine m_callw (.inl rfl) (sl1Cur_pick_ok W b n m (by omega) _ (by omega) hc) ?_
  rintro _ w1 ⟨hc1, hg1, k, rfl, hk⟩
  simp only [↓vsd, vsn, gW, qd, qv, ev, pick, argE, zipE, ne_eq, eq_self, forall_const, implies_true, if_true, if_false, reduceIte, reduceCtorEq, Nat.reduceEqDiff, Nat.reduceAdd, Nat.reduceLT, ↓us_sl1Cur_touch, r_sl1Cur_touch]
  refine ⟨inR_i64 (by omega), m_loop (fun j vs w' => ∃ (t : List UInt8), vs = [S t, .int .i64 j] ∧ t.length + j ≤ m + 1 ∧ Cur W b (n + 2 + 2 * (m + 1 - j)) w' ∧ w.grownBy w' (some b)) (k + 1) ⟨[], by rw [show (1 : Int) + k = ((k + 1 : Nat) : Int) by omega], by simp only [List.length_nil]; omega, hc1.mono (by omega), hg1⟩ ?_⟩
  rintro j vs w2 ⟨t, rfl, htl, hc2, hg2⟩
  by_cases hj : 0 < j
  · have hjI : (0 : Int) < j := by omega
    simp only [↓vsd, vsn, gW, qd, qv, ev, pick, argE, zipE, ne_eq, eq_self, forall_const, implies_true, if_true, if_false, reduceIte, reduceCtorEq, Nat.reduceEqDiff, Nat.reduceAdd, Nat.reduceLT, ↓us_sl1Cur_touch, r_sl1Cur_touch, hjI]
    refine m_bsl (by simp [S]; repeat' constructor) ?_
    rintro b3 w3 hb3 hblk3 hx3 hs3
    have hlt := hc2.lt
    simp only [↓vsd, vsn, gW, qd, qv, ev, pick, argE, zipE, ne_eq, eq_self, forall_const, implies_true, if_true, if_false, reduceIte, reduceCtorEq, Nat.reduceEqDiff, Nat.reduceAdd, Nat.reduceLT, ↓us_sl1Cur_touch, r_sl1Cur_touch]
    refine m_callw (by first | exact .inl rfl | exact .inr rfl) (sl1Cur_of_ok W b _ _ [[112], [112], [98], [115], [98]] w3 (by omega) (by decide) (hc2.ext (by first | exact hx3 | exact ud hx3)) (Sq.litC _ _ fS_len hblk3 rfl rfl (by omega))) ?_
    rintro _ w4 ⟨hc4, hg4, x, rfl, hx⟩
    have hx1 : x.length = 1 := by simp only [List.mem_cons, List.not_mem_nil, or_false] at hx; rcases hx with rfl | rfl | rfl | rfl | rfl <;> rfl
    simp only [↓vsd, vsn, gW, qd, qv, ev, pick, argE, zipE, ne_eq, eq_self, forall_const, implies_true, if_true, if_false, reduceIte, reduceCtorEq, Nat.reduceEqDiff, Nat.reduceAdd, Nat.reduceLT, ↓us_sl1Cur_touch, r_sl1Cur_touch]
    exact ⟨by omega, inR_i64 (by omega), j - 1, by omega, t ++ x, ⟨rfl, by rw [show (j : Int) - 1 = ((j - 1 : Nat) : Int) by omega]⟩, by rw [List.length_append]; omega, hc4.mono (by omega), grown_trans (grown_trans hg2 (grown_ext _ (by first | exact hx3 | exact ud hx3))) hg4⟩
  · obtain rfl : j = 0 := by omega
    have hjI : ¬ (0 : Int) < ((0 : Nat) : Int) := by omega
    simp only [↓vsd, vsn, gW, qd, qv, ev, pick, argE, zipE, ne_eq, eq_self, forall_const, implies_true, if_true, if_false, reduceIte, reduceCtorEq, Nat.reduceEqDiff, Nat.reduceAdd, Nat.reduceLT, ↓us_sl1Cur_touch, r_sl1Cur_touch, hjI]
    refine m_callw (.inl rfl) (sl1Cur_one_ok W b _ 3 (by omega) _ (by omega) hc2) ?_
    rintro _ w3 ⟨hc3, hg3, x, rfl⟩
    cases x
    · simp only [↓vsd, vsn, gW, qd, qv, ev, pick, argE, zipE, ne_eq, eq_self, forall_const, implies_true, if_true, if_false, reduceIte, reduceCtorEq, Nat.reduceEqDiff, Nat.reduceAdd, Nat.reduceLT, ↓us_sl1Cur_touch, r_sl1Cur_touch]
      exact ⟨hc3.mono (by omega), grown_trans hg2 hg3, t, rfl, by omega⟩
    · simp only [↓vsd, vsn, gW, qd, qv, ev, pick, argE, zipE, ne_eq, eq_self, forall_const, implies_true, if_true, if_false, reduceIte, reduceCtorEq, Nat.reduceEqDiff, Nat.reduceAdd, Nat.reduceLT, ↓us_sl1Cur_touch, r_sl1Cur_touch]
      exact ⟨by omega, hc3.mono (by omega), grown_trans hg2 hg3, t ++ t, rfl, by rw [List.length_append]; omega⟩
theorem sl1Cur_anyTouch_ok (W : World) (b n : Nat) (w : World) (hn : n ≤ 600000000) (hc : Cur W b n w) : CurFn 40 [cV b] W b n 400 w (fun r _ => ∃ x, r = S x ∧ x.length ≤ 61) := by
  (refine callsV_of mix Tryd.func40 c_sl1Cur_anyTouch ?_; simp only [↓vsd, vsn, gW, qd, qv, ev, pick, argE, zipE, ne_eq, eq_self, forall_const, implies_true, if_true, if_false, reduceIte, reduceCtorEq, Nat.reduceEqDiff, Nat.reduceAdd, Nat.reduceLT, ↓us_sl1Cur_anyTouch, r_sl1Cur_anyTouch])
  refine m_callw (.inl rfl) (sl1Cur_pick_ok W b n 16 (by omega) _ (by omega) hc) ?_
  rintro _ w1 ⟨hc1, hg1, q, rfl, hq⟩
  have hlt := hc1.lt
  simp only [↓vsd, vsn, gW, qd, qv, ev, pick, argE, zipE, ne_eq, eq_self, forall_const, implies_true, if_true, if_false, reduceIte, reduceCtorEq, Nat.reduceEqDiff, Nat.reduceAdd, Nat.reduceLT, ↓us_sl1Cur_anyTouch, r_sl1Cur_anyTouch]
  refine ⟨fun h0 => m_bsl (by simp [S]; repeat' constructor) ?_, fun h0 => ⟨fun h1 => m_bsl (by simp; repeat' constructor) ?_, fun h1 => m_callw (.inl rfl) (sl1Cur_touch_ok W b _ 9 (by omega) _ (by omega) hc1) ?_⟩⟩
  · rintro b2 w2 hb2 hblk2 hx2 hs2
    simp only [↓vsd, vsn, gW, qd, qv, ev, pick, argE, zipE, ne_eq, eq_self, forall_const, implies_true, if_true, if_false, reduceIte, reduceCtorEq, Nat.reduceEqDiff, Nat.reduceAdd, Nat.reduceLT, ↓us_sl1Cur_anyTouch, r_sl1Cur_anyTouch]
    refine m_callw (by first | exact .inl rfl | exact .inr rfl) (sl1Cur_of_ok W b _ _ [[], [120], [112, 66], [112, 32, 98]] w2 (by omega) (by decide) (hc1.ext hx2) (Sq.litC _ _ fS_len hblk2 rfl rfl (by omega))) ?_
    rintro _ w3 ⟨hc3, hg3, x, rfl, hx⟩
    simp only [↓vsd, vsn, gW, qd, qv, ev, pick, argE, zipE, ne_eq, eq_self, forall_const, implies_true, if_true, if_false, reduceIte, reduceCtorEq, Nat.reduceEqDiff, Nat.reduceAdd, Nat.reduceLT, ↓us_sl1Cur_anyTouch, r_sl1Cur_anyTouch]
    exact ⟨hc3.mono (by omega), grown_trans (grown_trans hg1 (grown_ext _ hx2)) hg3, x, rfl, by simp only [List.mem_cons, List.not_mem_nil, or_false] at hx; rcases hx with rfl | rfl | rfl | rfl <;> decide⟩
  · rintro b2 w2 hb2 hblk2 hx2 hs2
    simp only [↓vsd, vsn, gW, qd, qv, ev, pick, argE, zipE, ne_eq, eq_self, forall_const, implies_true, if_true, if_false, reduceIte, reduceCtorEq, Nat.reduceEqDiff, Nat.reduceAdd, Nat.reduceLT, ↓us_sl1Cur_anyTouch, r_sl1Cur_anyTouch]
    refine m_callw (by first | exact .inl rfl | exact .inr rfl) (sl1Cur_among_ok W b _ _ [59, 60, 61] w2 (by omega) (by decide) (hc1.ext hx2) (Sq.litC _ _ fI_len hblk2 rfl rfl (by omega))) ?_
    rintro _ w3 ⟨hc3, hg3, y, rfl, hy⟩
    have hy61 : 59 ≤ y ∧ y ≤ 61 := by simp only [List.mem_cons, List.not_mem_nil, or_false] at hy; omega
    obtain ⟨m, rfl⟩ : ∃ m : Nat, y = m := ⟨y.toNat, by omega⟩
    simp only [↓vsd, vsn, gW, qd, qv, ev, pick, argE, zipE, ne_eq, eq_self, forall_const, implies_true, if_true, if_false, reduceIte, reduceCtorEq, Nat.reduceEqDiff, Nat.reduceAdd, Nat.reduceLT, ↓us_sl1Cur_anyTouch, r_sl1Cur_anyTouch]
    refine m_loop (fun j vs w' => ∃ (t : List UInt8), vs = [S t, .int .i64 j] ∧ t.length + j ≤ 61 ∧ Cur W b (n + 10 + 2 * (61 - j)) w' ∧ w.grownBy w' (some b)) m ⟨[], rfl, by simp only [List.length_nil]; omega, hc3.mono (by omega), grown_trans (grown_trans hg1 (grown_ext _ hx2)) hg3⟩ ?_
    rintro j vs w4 ⟨t, rfl, htl, hc4, hg4⟩
    by_cases hj : 0 < j
    · have hjI : (0 : Int) < j := by omega
      simp only [↓vsd, vsn, gW, qd, qv, ev, pick, argE, zipE, ne_eq, eq_self, forall_const, implies_true, if_true, if_false, reduceIte, reduceCtorEq, Nat.reduceEqDiff, Nat.reduceAdd, Nat.reduceLT, ↓us_sl1Cur_anyTouch, r_sl1Cur_anyTouch, hjI]
      refine m_bsl (by simp [S]; repeat' constructor) ?_
      rintro b5 w5 hb5 hblk5 hx5 hs5
      have hlt4 := hc4.lt
      simp only [↓vsd, vsn, gW, qd, qv, ev, pick, argE, zipE, ne_eq, eq_self, forall_const, implies_true, if_true, if_false, reduceIte, reduceCtorEq, Nat.reduceEqDiff, Nat.reduceAdd, Nat.reduceLT, ↓us_sl1Cur_anyTouch, r_sl1Cur_anyTouch]
      refine m_callw (by first | exact .inl rfl | exact .inr rfl) (sl1Cur_of_ok W b _ _ [[112], [98], [115]] w5 (by omega) (by decide) (hc4.ext (by first | exact hx5 | exact ud hx5)) (Sq.litC _ _ fS_len hblk5 rfl rfl (by omega))) ?_
      rintro _ w6 ⟨hc6, hg6, x, rfl, hx⟩
      have hx1 : x.length = 1 := by simp only [List.mem_cons, List.not_mem_nil, or_false] at hx; rcases hx with rfl | rfl | rfl <;> rfl
      simp only [↓vsd, vsn, gW, qd, qv, ev, pick, argE, zipE, ne_eq, eq_self, forall_const, implies_true, if_true, if_false, reduceIte, reduceCtorEq, Nat.reduceEqDiff, Nat.reduceAdd, Nat.reduceLT, ↓us_sl1Cur_anyTouch, r_sl1Cur_anyTouch]
      exact ⟨by omega, inR_i64 (by omega), j - 1, by omega, t ++ x, ⟨rfl, by rw [show (j : Int) - 1 = ((j - 1 : Nat) : Int) by omega]⟩, by rw [List.length_append]; omega, hc6.mono (by omega), grown_trans (grown_trans hg4 (grown_ext _ (by first | exact hx5 | exact ud hx5))) hg6⟩
    · obtain rfl : j = 0 := by omega
      have hjI : ¬ (0 : Int) < ((0 : Nat) : Int) := by omega
      simp only [↓vsd, vsn, gW, qd, qv, ev, pick, argE, zipE, ne_eq, eq_self, forall_const, implies_true, if_true, if_false, reduceIte, reduceCtorEq, Nat.reduceEqDiff, Nat.reduceAdd, Nat.reduceLT, ↓us_sl1Cur_anyTouch, r_sl1Cur_anyTouch, hjI]
      exact ⟨hc4.mono (by omega), hg4, t, rfl, by omega⟩
  · rintro _ w2 ⟨hc2, hg2, x, rfl, hx⟩
    simp only [↓vsd, vsn, gW, qd, qv, ev, pick, argE, zipE, ne_eq, eq_self, forall_const, implies_true, if_true, if_false, reduceIte, reduceCtorEq, Nat.reduceEqDiff, Nat.reduceAdd, Nat.reduceLT, ↓us_sl1Cur_anyTouch, r_sl1Cur_anyTouch]
    exact ⟨hc2.mono (by omega), grown_trans hg1 hg2, x, rfl, by omega⟩
theorem sDrawGoodTouch_okp (v : Value) (code : List UInt8) (hl : code.length ≤ 1048576) (w : World) (h : Sq fU 1 w v code) : Fn 23 [v] w (fun r _ => ∃ x, r = S x ∧ x.length ≤ 61) := by
  (refine callsV_of mix Tryd.func23 c_sDrawGoodTouch ?_; simp only [↓vsd, vsn, gW, qd, qv, ev, pick, argE, zipE, ne_eq, eq_self, forall_const, implies_true, if_true, if_false, reduceIte, reduceCtorEq, Nat.reduceEqDiff, Nat.reduceAdd, Nat.reduceLT, ↓us_sDrawGoodTouch, r_sDrawGoodTouch])
  simp only [↓vsd, vsn, gW, qd, qv, ev, pick, argE, zipE, ne_eq, eq_self, forall_const, implies_true, if_true, if_false, reduceIte, reduceCtorEq, Nat.reduceEqDiff, Nat.reduceAdd, Nat.reduceLT, ↓us_sDrawGoodTouch, r_sDrawGoodTouch, h.facts]
  refine m_al ?_
  rintro b w1 hb hblk hx1 hs1
  have hc := Cur.new h hl hb hblk hx1
  simp only [↓vsd, vsn, gW, qd, qv, ev, pick, argE, zipE, ne_eq, eq_self, forall_const, implies_true, if_true, if_false, reduceIte, reduceCtorEq, Nat.reduceEqDiff, Nat.reduceAdd, Nat.reduceLT, ↓us_sDrawGoodTouch, r_sDrawGoodTouch]
  refine m_callw (.inl rfl) (sl1Cur_anyTouch_ok w b _ w1 (by omega) hc) ?_
  rintro _ w2 ⟨hc2, hg2, x, rfl, hx⟩
  simp only [↓vsd, vsn, gW, qd, qv, ev, pick, argE, zipE, ne_eq, eq_self, forall_const, implies_true, if_true, if_false, reduceIte, reduceCtorEq, Nat.reduceEqDiff, Nat.reduceAdd, Nat.reduceLT, ↓us_sDrawGoodTouch, r_sDrawGoodTouch]
  exact ⟨hc2.base, x, rfl, hx⟩
theorem sDrawPrintParts_ok (v : Value) (code : List UInt8) (hl : code.length ≤ 1048576) (w : World) (h : Sq fU 1 w v code) : Fn 11 [v] w (fun r _ => ∃ x, r = S x ∧ x.length ≤ 61) := by
  (refine callsV_of mix Tryd.func11 c_sDrawPrintParts ?_; simp only [↓vsd, vsn, gW, qd, qv, ev, pick, argE, zipE, ne_eq, eq_self, forall_const, implies_true, if_true, if_false, reduceIte, reduceCtorEq, Nat.reduceEqDiff, Nat.reduceAdd, Nat.reduceLT, ↓us_sDrawPrintParts, r_sDrawPrintParts])
  refine m_call (sDrawGoodTouch_okp v code hl _ h) ?_
  rintro _ w1 hx1 ⟨x, rfl, hx⟩
  simp only [↓vsd, vsn, gW, qd, qv, ev, pick, argE, zipE, ne_eq, eq_self, forall_const, implies_true, if_true, if_false, reduceIte, reduceCtorEq, Nat.reduceEqDiff, Nat.reduceAdd, Nat.reduceLT, ↓us_sDrawPrintParts, r_sDrawPrintParts]
  exact ⟨hx1, x, rfl, hx⟩
def mL : Nat → Nat
  | 0 => 1
  | d + 1 => 4 * mL d + 3
def mK : Nat → Nat
  | 0 => 10
  | d + 1 => 4 * mK d + 20
theorem sl1Cur_block_ok : ∀ d : Nat, d ≤ 2 → ∀ (W : World) (b n : Nat) (v : Value) (names : List (List UInt8)) (w : World), names.length ≤ 3 → (∀ x ∈ names, x.length ≤ 1) → n + 1000000 * d ≤ 500000000 → (∀ w', w.grownBy w' (some b) → Sq fS 1 w' v names) → Cur W b n w →
    CurFn 45 [cV b, v, .int .i64 d] W b n (4 * mK d + 4) w (fun r _ => ∃ x, r = S x ∧ x.length ≤ 4 * mL d) := by
  intro d
  induction d with
  | zero =>
    intro _ W b n v names w hnl hns hn hv hc
    have hmk : mK 0 = 10 := rfl
    have hml : mL 0 = 1 := rfl
    (refine callsV_of mix Tryd.func45 c_sl1Cur_block ?_; simp only [↓vsd, vsn, gW, qd, qv, ev, pick, argE, zipE, ne_eq, eq_self, forall_const, implies_true, if_true, if_false, reduceIte, reduceCtorEq, Nat.reduceEqDiff, Nat.reduceAdd, Nat.reduceLT, ↓us_sl1Cur_block, r_sl1Cur_block])
    generalize mK 0 = K at *
    generalize mL 0 = M at *
    refine m_callw (.inl rfl) (sl1Cur_pick_ok W b n 4 (by omega) _ (by omega) hc) ?_
    rintro _ w1 ⟨hc1, hg1, k0, rfl, hk0⟩
    have hk4 : k0 < 4 := by omega
    have ek : (1 : Int) + (k0 : Nat) = ((k0 + 1 : Nat) : Int) := by omega
    simp only [↓vsd, vsn, gW, qd, qv, ev, pick, argE, zipE, ne_eq, eq_self, forall_const, implies_true, if_true, if_false, reduceIte, reduceCtorEq, Nat.reduceEqDiff, Nat.reduceAdd, Nat.reduceLT, ↓us_sl1Cur_block, r_sl1Cur_block, ek]
    refine ⟨inR_i64 (by omega), m_loop (fun j vs w' => ∃ (t : List UInt8) (i : Nat), vs = [S t, .int .i64 j] ∧ i + j = k0 + 1 ∧ t.length ≤ i * M ∧ Cur W b (n + 2 + i * K) w' ∧ w.grownBy w' (some b)) (k0 + 1) ⟨[], 0, rfl, by omega, by simp, hc1.mono (by omega), hg1⟩ ?_⟩
    rintro j vs w2 ⟨t, i, rfl, hij, htl, hc2, hg2⟩
    have hiM : i * M ≤ 4 * M := Nat.mul_le_mul_right _ (by omega)
    have hiK : i * K ≤ 4 * K := Nat.mul_le_mul_right _ (by omega)
    have hsM : (i + 1) * M = i * M + M := Nat.succ_mul _ _
    have hsK : (i + 1) * K = i * K + K := Nat.succ_mul _ _
    by_cases hj : 0 < j
    · have hjI : (0 : Int) < j := by omega
      have hdI : ¬ (0 : Int) < ((0 : Nat) : Int) := by omega
      simp only [↓vsd, vsn, gW, qd, qv, ev, pick, argE, zipE, ne_eq, eq_self, forall_const, implies_true, if_true, if_false, reduceIte, reduceCtorEq, Nat.reduceEqDiff, Nat.reduceAdd, Nat.reduceLT, ↓us_sl1Cur_block, r_sl1Cur_block, hjI, hdI]
      have hcz := hc2
      have hgz := hg2
      have hqn := hv _ hgz
      by_cases hnz : 0 < names.length
      · have hnzI : (0 : Int) < names.length := by omega
        simp only [↓vsd, vsn, gW, qd, qv, ev, pick, argE, zipE, ne_eq, eq_self, forall_const, implies_true, if_true, if_false, reduceIte, reduceCtorEq, Nat.reduceEqDiff, Nat.reduceAdd, Nat.reduceLT, ↓us_sl1Cur_block, r_sl1Cur_block, hqn.facts, hnzI]
        refine m_callw (by first | exact .inl rfl | exact .inr rfl) (sl1Cur_one_ok W b _ 3 (by omega) _ (by omega) hcz) ?_
        rintro _ w4 ⟨hc4, hg4, z, rfl⟩
        cases z
        · simp only [↓vsd, vsn, gW, qd, qv, ev, pick, argE, zipE, ne_eq, eq_self, forall_const, implies_true, if_true, if_false, reduceIte, reduceCtorEq, Nat.reduceEqDiff, Nat.reduceAdd, Nat.reduceLT, ↓us_sl1Cur_block, r_sl1Cur_block]
          have hcz := hc4
          have hgz := grown_trans hgz hg4
          refine m_bsl (by simp [S]; repeat' constructor) ?_
          rintro b5 w5 hb5 hblk5 hx5 hs5
          have hltz := hcz.lt
          simp only [↓vsd, vsn, gW, qd, qv, ev, pick, argE, zipE, ne_eq, eq_self, forall_const, implies_true, if_true, if_false, reduceIte, reduceCtorEq, Nat.reduceEqDiff, Nat.reduceAdd, Nat.reduceLT, ↓us_sl1Cur_block, r_sl1Cur_block]
          refine m_callw (by first | exact .inl rfl | exact .inr rfl) (sl1Cur_of_ok W b _ _ [[112], [98], [115]] w5 (by omega) (by decide) (hcz.ext hx5) (Sq.litC _ _ fS_len hblk5 rfl rfl (by omega))) ?_
          rintro _ w6 ⟨hc6, hg6, x, rfl, hx⟩
          have hx1 : x.length = 1 := by simp only [List.mem_cons, List.not_mem_nil, or_false] at hx; rcases hx with rfl | rfl | rfl <;> rfl
          simp only [↓vsd, vsn, gW, qd, qv, ev, pick, argE, zipE, ne_eq, eq_self, forall_const, implies_true, if_true, if_false, reduceIte, reduceCtorEq, Nat.reduceEqDiff, Nat.reduceAdd, Nat.reduceLT, ↓us_sl1Cur_block, r_sl1Cur_block]
          refine ⟨by omega, inR_i64 (by omega), j - 1, by omega, t ++ x, i + 1, ⟨rfl, by rw [show (j : Int) - 1 = ((j - 1 : Nat) : Int) by omega]⟩, by omega, by rw [List.length_append]; omega, hc6.mono (by omega), grown_trans (grown_trans hgz (grown_ext _ hx5)) hg6⟩
        · simp only [↓vsd, vsn, gW, qd, qv, ev, pick, argE, zipE, ne_eq, eq_self, forall_const, implies_true, if_true, if_false, reduceIte, reduceCtorEq, Nat.reduceEqDiff, Nat.reduceAdd, Nat.reduceLT, ↓us_sl1Cur_block, r_sl1Cur_block]
          have hgz := grown_trans hgz hg4
          refine m_callw (by first | exact .inl rfl | exact .inr rfl) (sl1Cur_of_ok W b _ v names w4 (by omega) ⟨hnz, by omega⟩ hc4 (fun w' hg => hv w' (grown_trans hgz hg))) ?_
          rintro _ w6 ⟨hc6, hg6, x, rfl, hx⟩
          have hx1 := hns x hx
          simp only [↓vsd, vsn, gW, qd, qv, ev, pick, argE, zipE, ne_eq, eq_self, forall_const, implies_true, if_true, if_false, reduceIte, reduceCtorEq, Nat.reduceEqDiff, Nat.reduceAdd, Nat.reduceLT, ↓us_sl1Cur_block, r_sl1Cur_block]
          refine ⟨by omega, inR_i64 (by omega), j - 1, by omega, t ++ x, i + 1, ⟨rfl, by rw [show (j : Int) - 1 = ((j - 1 : Nat) : Int) by omega]⟩, by omega, by rw [List.length_append]; omega, hc6.mono (by omega), grown_trans hgz hg6⟩
      · have hnzI : ¬ (0 : Int) < names.length := by omega
        simp only [↓vsd, vsn, gW, qd, qv, ev, pick, argE, zipE, ne_eq, eq_self, forall_const, implies_true, if_true, if_false, reduceIte, reduceCtorEq, Nat.reduceEqDiff, Nat.reduceAdd, Nat.reduceLT, ↓us_sl1Cur_block, r_sl1Cur_block, hqn.facts, hnzI]
        refine m_bsl (by simp [S]; repeat' constructor) ?_
        rintro b5 w5 hb5 hblk5 hx5 hs5
        have hltz := hcz.lt
        simp only [↓vsd, vsn, gW, qd, qv, ev, pick, argE, zipE, ne_eq, eq_self, forall_const, implies_true, if_true, if_false, reduceIte, reduceCtorEq, Nat.reduceEqDiff, Nat.reduceAdd, Nat.reduceLT, ↓us_sl1Cur_block, r_sl1Cur_block]
        refine m_callw (by first | exact .inl rfl | exact .inr rfl) (sl1Cur_of_ok W b _ _ [[112], [98], [115]] w5 (by omega) (by decide) (hcz.ext hx5) (Sq.litC _ _ fS_len hblk5 rfl rfl (by omega))) ?_
        rintro _ w6 ⟨hc6, hg6, x, rfl, hx⟩
        have hx1 : x.length = 1 := by simp only [List.mem_cons, List.not_mem_nil, or_false] at hx; rcases hx with rfl | rfl | rfl <;> rfl
        simp only [↓vsd, vsn, gW, qd, qv, ev, pick, argE, zipE, ne_eq, eq_self, forall_const, implies_true, if_true, if_false, reduceIte, reduceCtorEq, Nat.reduceEqDiff, Nat.reduceAdd, Nat.reduceLT, ↓us_sl1Cur_block, r_sl1Cur_block]
        refine ⟨by omega, inR_i64 (by omega), j - 1, by omega, t ++ x, i + 1, ⟨rfl, by rw [show (j : Int) - 1 = ((j - 1 : Nat) : Int) by omega]⟩, by omega, by rw [List.length_append]; omega, hc6.mono (by omega), grown_trans (grown_trans hgz (grown_ext _ hx5)) hg6⟩
    · obtain rfl : j = 0 := by omega
      have hjI : ¬ (0 : Int) < ((0 : Nat) : Int) := by omega
      simp only [↓vsd, vsn, gW, qd, qv, ev, pick, argE, zipE, ne_eq, eq_self, forall_const, implies_true, if_true, if_false, reduceIte, reduceCtorEq, Nat.reduceEqDiff, Nat.reduceAdd, Nat.reduceLT, ↓us_sl1Cur_block, r_sl1Cur_block, hjI]
      exact ⟨hc2.mono (by omega), hg2, t, rfl, by omega⟩
  | succ d ih =>
    intro hd W b n v names w hnl hns hn hv hc
    have hmk : mK (d + 1) = 4 * mK d + 20 := rfl
    have hml : mL (d + 1) = 4 * mL d + 3 := rfl
    have hk2 : mK d ≤ 100 := by
      have : d = 0 ∨ d = 1 := by omega
      rcases this with rfl | rfl <;> decide
    have hl2 : mL d ≤ 100 := by
      have : d = 0 ∨ d = 1 := by omega
      rcases this with rfl | rfl <;> decide
    (refine callsV_of mix Tryd.func45 c_sl1Cur_block ?_; simp only [↓vsd, vsn, gW, qd, qv, ev, pick, argE, zipE, ne_eq, eq_self, forall_const, implies_true, if_true, if_false, reduceIte, reduceCtorEq, Nat.reduceEqDiff, Nat.reduceAdd, Nat.reduceLT, ↓us_sl1Cur_block, r_sl1Cur_block])
    generalize mK (d + 1) = K at *
    generalize mL (d + 1) = M at *
    refine m_callw (.inl rfl) (sl1Cur_pick_ok W b n 4 (by omega) _ (by omega) hc) ?_
    rintro _ w1 ⟨hc1, hg1, k0, rfl, hk0⟩
    have hk4 : k0 < 4 := by omega
    have ek : (1 : Int) + (k0 : Nat) = ((k0 + 1 : Nat) : Int) := by omega
    simp only [↓vsd, vsn, gW, qd, qv, ev, pick, argE, zipE, ne_eq, eq_self, forall_const, implies_true, if_true, if_false, reduceIte, reduceCtorEq, Nat.reduceEqDiff, Nat.reduceAdd, Nat.reduceLT, ↓us_sl1Cur_block, r_sl1Cur_block, ek]
    refine ⟨inR_i64 (by omega), m_loop (fun j vs w' => ∃ (t : List UInt8) (i : Nat), vs = [S t, .int .i64 j] ∧ i + j = k0 + 1 ∧ t.length ≤ i * M ∧ Cur W b (n + 2 + i * K) w' ∧ w.grownBy w' (some b)) (k0 + 1) ⟨[], 0, rfl, by omega, by simp, hc1.mono (by omega), hg1⟩ ?_⟩
    rintro j vs w2 ⟨t, i, rfl, hij, htl, hc2, hg2⟩
    have hiM : i * M ≤ 4 * M := Nat.mul_le_mul_right _ (by omega)
    have hiK : i * K ≤ 4 * K := Nat.mul_le_mul_right _ (by omega)
    have hsM : (i + 1) * M = i * M + M := Nat.succ_mul _ _
    have hsK : (i + 1) * K = i * K + K := Nat.succ_mul _ _
    by_cases hj : 0 < j
    · have hjI : (0 : Int) < j := by omega
      have hdI : (0 : Int) < ((d + 1 : Nat) : Int) := by omega
      simp only [↓vsd, vsn, gW, qd, qv, ev, pick, argE, zipE, ne_eq, eq_self, forall_const, implies_true, if_true, if_false, reduceIte, reduceCtorEq, Nat.reduceEqDiff, Nat.reduceAdd, Nat.reduceLT, ↓us_sl1Cur_block, r_sl1Cur_block, hjI, hdI]
      refine m_callw (by first | exact .inl rfl | exact .inr rfl) (sl1Cur_one_ok W b _ 4 (by omega) _ (by omega) hc2) ?_
      rintro _ w3 ⟨hc3, hg3, z, rfl⟩
      have hg03 := grown_trans hg2 hg3
      cases z
      · simp only [↓vsd, vsn, gW, qd, qv, ev, pick, argE, zipE, ne_eq, eq_self, forall_const, implies_true, if_true, if_false, reduceIte, reduceCtorEq, Nat.reduceEqDiff, Nat.reduceAdd, Nat.reduceLT, ↓us_sl1Cur_block, r_sl1Cur_block]
        have hcz := hc3
        have hgz := hg03
        have hqn := hv _ hgz
        by_cases hnz : 0 < names.length
        · have hnzI : (0 : Int) < names.length := by omega
          simp only [↓vsd, vsn, gW, qd, qv, ev, pick, argE, zipE, ne_eq, eq_self, forall_const, implies_true, if_true, if_false, reduceIte, reduceCtorEq, Nat.reduceEqDiff, Nat.reduceAdd, Nat.reduceLT, ↓us_sl1Cur_block, r_sl1Cur_block, hqn.facts, hnzI]
          refine m_callw (by first | exact .inl rfl | exact .inr rfl) (sl1Cur_one_ok W b _ 3 (by omega) _ (by omega) hcz) ?_
          rintro _ w4 ⟨hc4, hg4, z, rfl⟩
          cases z
          · simp only [↓vsd, vsn, gW, qd, qv, ev, pick, argE, zipE, ne_eq, eq_self, forall_const, implies_true, if_true, if_false, reduceIte, reduceCtorEq, Nat.reduceEqDiff, Nat.reduceAdd, Nat.reduceLT, ↓us_sl1Cur_block, r_sl1Cur_block]
            have hcz := hc4
            have hgz := grown_trans hgz hg4
            refine m_bsl (by simp [S]; repeat' constructor) ?_
            rintro b5 w5 hb5 hblk5 hx5 hs5
            have hltz := hcz.lt
            simp only [↓vsd, vsn, gW, qd, qv, ev, pick, argE, zipE, ne_eq, eq_self, forall_const, implies_true, if_true, if_false, reduceIte, reduceCtorEq, Nat.reduceEqDiff, Nat.reduceAdd, Nat.reduceLT, ↓us_sl1Cur_block, r_sl1Cur_block]
            refine m_callw (by first | exact .inl rfl | exact .inr rfl) (sl1Cur_of_ok W b _ _ [[112], [98], [115]] w5 (by omega) (by decide) (hcz.ext hx5) (Sq.litC _ _ fS_len hblk5 rfl rfl (by omega))) ?_
            rintro _ w6 ⟨hc6, hg6, x, rfl, hx⟩
            have hx1 : x.length = 1 := by simp only [List.mem_cons, List.not_mem_nil, or_false] at hx; rcases hx with rfl | rfl | rfl <;> rfl
            simp only [↓vsd, vsn, gW, qd, qv, ev, pick, argE, zipE, ne_eq, eq_self, forall_const, implies_true, if_true, if_false, reduceIte, reduceCtorEq, Nat.reduceEqDiff, Nat.reduceAdd, Nat.reduceLT, ↓us_sl1Cur_block, r_sl1Cur_block]
            refine ⟨by omega, inR_i64 (by omega), j - 1, by omega, t ++ x, i + 1, ⟨rfl, by rw [show (j : Int) - 1 = ((j - 1 : Nat) : Int) by omega]⟩, by omega, by rw [List.length_append]; omega, hc6.mono (by omega), grown_trans (grown_trans hgz (grown_ext _ hx5)) hg6⟩
          · simp only [↓vsd, vsn, gW, qd, qv, ev, pick, argE, zipE, ne_eq, eq_self, forall_const, implies_true, if_true, if_false, reduceIte, reduceCtorEq, Nat.reduceEqDiff, Nat.reduceAdd, Nat.reduceLT, ↓us_sl1Cur_block, r_sl1Cur_block]
            have hgz := grown_trans hgz hg4
            refine m_callw (by first | exact .inl rfl | exact .inr rfl) (sl1Cur_of_ok W b _ v names w4 (by omega) ⟨hnz, by omega⟩ hc4 (fun w' hg => hv w' (grown_trans hgz hg))) ?_
            rintro _ w6 ⟨hc6, hg6, x, rfl, hx⟩
            have hx1 := hns x hx
            simp only [↓vsd, vsn, gW, qd, qv, ev, pick, argE, zipE, ne_eq, eq_self, forall_const, implies_true, if_true, if_false, reduceIte, reduceCtorEq, Nat.reduceEqDiff, Nat.reduceAdd, Nat.reduceLT, ↓us_sl1Cur_block, r_sl1Cur_block]
            refine ⟨by omega, inR_i64 (by omega), j - 1, by omega, t ++ x, i + 1, ⟨rfl, by rw [show (j : Int) - 1 = ((j - 1 : Nat) : Int) by omega]⟩, by omega, by rw [List.length_append]; omega, hc6.mono (by omega), grown_trans hgz hg6⟩
        · have hnzI : ¬ (0 : Int) < names.length := by omega
          simp only [↓vsd, vsn, gW, qd, qv, ev, pick, argE, zipE, ne_eq, eq_self, forall_const, implies_true, if_true, if_false, reduceIte, reduceCtorEq, Nat.reduceEqDiff, Nat.reduceAdd, Nat.reduceLT, ↓us_sl1Cur_block, r_sl1Cur_block, hqn.facts, hnzI]
          refine m_bsl (by simp [S]; repeat' constructor) ?_
          rintro b5 w5 hb5 hblk5 hx5 hs5
          have hltz := hcz.lt
          simp only [↓vsd, vsn, gW, qd, qv, ev, pick, argE, zipE, ne_eq, eq_self, forall_const, implies_true, if_true, if_false, reduceIte, reduceCtorEq, Nat.reduceEqDiff, Nat.reduceAdd, Nat.reduceLT, ↓us_sl1Cur_block, r_sl1Cur_block]
          refine m_callw (by first | exact .inl rfl | exact .inr rfl) (sl1Cur_of_ok W b _ _ [[112], [98], [115]] w5 (by omega) (by decide) (hcz.ext hx5) (Sq.litC _ _ fS_len hblk5 rfl rfl (by omega))) ?_
          rintro _ w6 ⟨hc6, hg6, x, rfl, hx⟩
          have hx1 : x.length = 1 := by simp only [List.mem_cons, List.not_mem_nil, or_false] at hx; rcases hx with rfl | rfl | rfl <;> rfl
          simp only [↓vsd, vsn, gW, qd, qv, ev, pick, argE, zipE, ne_eq, eq_self, forall_const, implies_true, if_true, if_false, reduceIte, reduceCtorEq, Nat.reduceEqDiff, Nat.reduceAdd, Nat.reduceLT, ↓us_sl1Cur_block, r_sl1Cur_block]
          refine ⟨by omega, inR_i64 (by omega), j - 1, by omega, t ++ x, i + 1, ⟨rfl, by rw [show (j : Int) - 1 = ((j - 1 : Nat) : Int) by omega]⟩, by omega, by rw [List.length_append]; omega, hc6.mono (by omega), grown_trans (grown_trans hgz (grown_ext _ hx5)) hg6⟩
      · have ed : ((d + 1 : Nat) : Int) - 1 = (d : Nat) := by omega
        simp only [↓vsd, vsn, gW, qd, qv, ev, pick, argE, zipE, ne_eq, eq_self, forall_const, implies_true, if_true, if_false, reduceIte, reduceCtorEq, Nat.reduceEqDiff, Nat.reduceAdd, Nat.reduceLT, ↓us_sl1Cur_block, r_sl1Cur_block, ed]
        refine ⟨inR_i64 (by omega), m_callw (by first | exact .inl rfl | exact .inr rfl) (ih (by omega) W b _ v names _ hnl hns (by omega) (fun w' hg => hv w' (grown_trans hg03 hg)) hc3) ?_⟩
        rintro _ w4 ⟨hc4, hg4, y, rfl, hy⟩
        simp only [↓vsd, vsn, gW, qd, qv, ev, pick, argE, zipE, ne_eq, eq_self, forall_const, implies_true, if_true, if_false, reduceIte, reduceCtorEq, Nat.reduceEqDiff, Nat.reduceAdd, Nat.reduceLT, ↓us_sl1Cur_block, r_sl1Cur_block]
        refine ⟨by omega, by omega, m_bsl (by simp [S]; repeat' constructor) ?_⟩
        rintro b5 w5 hb5 hblk5 hx5 hs5
        have hlt4 := hc4.lt
        simp only [↓vsd, vsn, gW, qd, qv, ev, pick, argE, zipE, ne_eq, eq_self, forall_const, implies_true, if_true, if_false, reduceIte, reduceCtorEq, Nat.reduceEqDiff, Nat.reduceAdd, Nat.reduceLT, ↓us_sl1Cur_block, r_sl1Cur_block]
        refine m_callw (by first | exact .inl rfl | exact .inr rfl) (sl1Cur_of_ok W b _ _ [[50], [51], [57]] w5 (by omega) (by decide) (hc4.ext hx5) (Sq.litC _ _ fS_len hblk5 rfl rfl (by omega))) ?_
        rintro _ w6 ⟨hc6, hg6, x, rfl, hx⟩
        have hx1 : x.length = 1 := by simp only [List.mem_cons, List.not_mem_nil, or_false] at hx; rcases hx with rfl | rfl | rfl <;> rfl
        have hyl : (y ++ [41] ++ x).length = y.length + 2 := by simp; omega
        have hyl2 : (y ++ [41]).length = y.length + 1 := by simp
        simp only [↓vsd, vsn, gW, qd, qv, ev, pick, argE, zipE, ne_eq, eq_self, forall_const, implies_true, if_true, if_false, reduceIte, reduceCtorEq, Nat.reduceEqDiff, Nat.reduceAdd, Nat.reduceLT, ↓us_sl1Cur_block, r_sl1Cur_block]
        refine ⟨by omega, by omega, inR_i64 (by omega), j - 1, by omega, t ++ 40 :: (y ++ [41] ++ x), i + 1, ⟨rfl, by rw [show (j : Int) - 1 = ((j - 1 : Nat) : Int) by omega]⟩, by omega, by rw [List.length_append, List.length_cons]; omega, hc6.mono (by omega), grown_trans (grown_trans (grown_trans hg03 hg4) (grown_ext _ hx5)) hg6⟩
    · obtain rfl : j = 0 := by omega
      have hjI : ¬ (0 : Int) < ((0 : Nat) : Int) := by omega
      simp only [↓vsd, vsn, gW, qd, qv, ev, pick, argE, zipE, ne_eq, eq_self, forall_const, implies_true, if_true, if_false, reduceIte, reduceCtorEq, Nat.reduceEqDiff, Nat.reduceAdd, Nat.reduceLT, ↓us_sl1Cur_block, r_sl1Cur_block, hjI]
      exact ⟨hc2.mono (by omega), hg2, t, rfl, by omega⟩
theorem sl1Cur_words_ok (W : World) (b n : Nat) (w : World) (hn : n ≤ 400000000) (hc : Cur W b n w) : CurFn 27 [cV b] W b n 2000 w (fun r _ => ∃ x, r = S x ∧ x.length ≤ 220) := by
  (refine callsV_of mix Tryd.func27 c_sl1Cur_words ?_; simp only [↓vsd, vsn, gW, qd, qv, ev, pick, argE, zipE, ne_eq, eq_self, forall_const, implies_true, if_true, if_false, reduceIte, reduceCtorEq, Nat.reduceEqDiff, Nat.reduceAdd, Nat.reduceLT, ↓us_sl1Cur_words, r_sl1Cur_words])
  refine m_bsl (by simp [S]; repeat' constructor) ?_
  rintro b3 w3 hb3 hblk3 hx3 hs3
  have hltb := hc.lt
  have hc3 := hc.ext hx3
  have hlit : Sq fS 1 w3 (.slice (some ⟨b3, 0, none⟩) 3 3) [[65], [88], [66]] := Sq.lit _ _ fS_len hblk3 rfl rfl
  simp only [↓vsd, vsn, gW, qd, qv, ev, pick, argE, zipE, ne_eq, eq_self, forall_const, implies_true, if_true, if_false, reduceIte, reduceCtorEq, Nat.reduceEqDiff, Nat.reduceAdd, Nat.reduceLT, ↓us_sl1Cur_words, r_sl1Cur_words]
  have hvl : ∀ w', w3.grownBy w' (some b) → Sq fS 1 w' (.slice (some ⟨b3, 0, none⟩) 3 3) [[65], [88], [66]] := Sq.litC _ _ fS_len hblk3 rfl rfl (by omega)
  generalize Value.slice (some ⟨b3, 0, none⟩) 3 3 = lv at *
  refine m_upto 3 (fun i vs w' => ∃ (s : List UInt8) (x : Value) (nl : List (List UInt8)), vs = [S s, x, .int .i64 i] ∧ s.length ≤ i * 31 ∧ nl.length ≤ i ∧ (∀ y ∈ nl, y.length ≤ 1) ∧ Own fS 1 9 w3.heap.size w' x nl ∧ Cur W b (n + i * 246) w' ∧ w.grownBy w' (some b) ∧ w3.grownBy w' (some b)) ⟨[], _, [], rfl, by simp, by simp, by simp, Own.nil fS_len, hc3, grown_ext _ hx3, grown_refl _ _⟩ ?_
  rintro i vs w4 hi ⟨s, x, nl, rfl, hsl, hnl, hns, ho4, hc4, hg4, hg34⟩
  have hq4 := hvl _ hg34
  by_cases hlt : i < 3
  · have hltI : (i : Int) < ((3 : Nat) : Int) := by omega
    have hltJ : ¬ ((3 : Nat) : Int) ≤ i := by omega
    have hqf := hq4.facts
    have a4 := hq4.at1 [] (i := i) hlt
    have hnm : (([[65], [88], [66]] : List (List UInt8)).getD i []).length = 1 := by
      rcases i with _ | _ | _ | i
      · rfl
      · rfl
      · rfl
      · omega
    generalize ([[65], [88], [66]] : List (List UInt8)).getD i [] = nmi at *
    simp only [↓vsd, vsn, gW, qd, qv, ev, pick, argE, zipE, ne_eq, eq_self, forall_const, implies_true, if_true, if_false, reduceIte, reduceCtorEq, Nat.reduceEqDiff, Nat.reduceAdd, Nat.reduceLT, ↓us_sl1Cur_words, r_sl1Cur_words, hltI, hltJ, hqf, a4]
    refine ⟨by omega, m_callw (by first | exact .inl rfl | exact .inr rfl) (sl1Cur_one_ok W b _ 2 (by omega) _ (by omega) hc4) ?_⟩
    rintro _ w5 ⟨hc5, hg5, z, rfl⟩
    have ho5 := ho4.keep hg5 (fun c hc => by have := Option.some.inj hc; omega)
    cases z
    · simp only [↓vsd, vsn, gW, qd, qv, ev, pick, argE, zipE, ne_eq, eq_self, forall_const, implies_true, if_true, if_false, reduceIte, reduceCtorEq, Nat.reduceEqDiff, Nat.reduceAdd, Nat.reduceLT, ↓us_sl1Cur_words, r_sl1Cur_words]
      exact ⟨inR_i64 (by omega), UpTo.next hlt ⟨s, x, nl, rfl, by omega, by omega, hns, ho5, hc5.mono (by omega), grown_trans hg4 hg5, grown_trans hg34 hg5⟩⟩
    · simp only [↓vsd, vsn, gW, qd, qv, ev, pick, argE, zipE, ne_eq, eq_self, forall_const, implies_true, if_true, if_false, reduceIte, reduceCtorEq, Nat.reduceEqDiff, Nat.reduceAdd, Nat.reduceLT, ↓us_sl1Cur_words, r_sl1Cur_words]
      refine ⟨by omega, ?_⟩
      have hmk : 4 * mK 1 + 4 = 244 := rfl
      have hml : 4 * mL 1 = 28 := rfl
      refine m_callw (by first | exact .inl rfl | exact .inr rfl) (sl1Cur_block_ok 1 (by omega) W b _ x nl _ (by omega) hns (by omega) (fun w' hg => (ho5.keep hg (fun c hc => by have := Option.some.inj hc; omega)).sq) hc5) ?_
      rintro _ w6 ⟨hc6, hg6, y, rfl, hy⟩
      rw [hmk] at hc6
      have ho6 := ho5.keep hg6 (fun c hc => by have := Option.some.inj hc; omega)
      have e1 : (nmi ++ [61]).length = 2 := by simp [hnm]
      have e2 : (nmi ++ [61] ++ y).length = y.length + 2 := by rw [List.length_append, e1]; omega
      have e3 : (nmi ++ [61] ++ y ++ [59]).length = y.length + 3 := by rw [List.length_append, e2]; rfl
      simp only [↓vsd, vsn, gW, qd, qv, ev, pick, argE, zipE, ne_eq, eq_self, forall_const, implies_true, if_true, if_false, reduceIte, reduceCtorEq, Nat.reduceEqDiff, Nat.reduceAdd, Nat.reduceLT, ↓us_sl1Cur_words, r_sl1Cur_words]
      refine ⟨by omega, by omega, by omega, m_bsl (one_el rfl) ?_⟩
      rintro b7 w7 hb7 hblk7 hx7 hs7
      simp only [↓vsd, vsn, gW, qd, qv, ev, pick, argE, zipE, ne_eq, eq_self, forall_const, implies_true, if_true, if_false, reduceIte, reduceCtorEq, Nat.reduceEqDiff, Nat.reduceAdd, Nat.reduceLT, ↓us_sl1Cur_words, r_sl1Cur_words]
      have hg36 := grown_trans (grown_trans (grown_trans hg34 hg5) hg6) (grown_ext _ hx7)
      refine m_app (ho6.ext hx7) (Sq.one fS_len hblk7 rfl) fS_one (by decide) (by rw [List.length_singleton]; omega) (by decide) hg36.size ?_
      rintro x8 w8 ho8 hg8
      have hob : ∀ c, x.ownBlock = some c → w3.heap.size ≤ c := fun c hc => (ho6.bound c hc).1
      have hc8 := (hc6.ext hx7).keep hg8 (fun c hc => by have := hob c hc; omega)
      have hg38 := grown_new hg36 hg8 hob
      have hg08 := grown_new (grown_trans (grown_trans (grown_trans hg4 hg5) hg6) (grown_ext _ hx7)) hg8 (fun c hc => by have := hob c hc; have := hx3.size; omega)
      simp only [↓vsd, vsn, gW, qd, qv, ev, pick, argE, zipE, ne_eq, eq_self, forall_const, implies_true, if_true, if_false, reduceIte, reduceCtorEq, Nat.reduceEqDiff, Nat.reduceAdd, Nat.reduceLT, ↓us_sl1Cur_words, r_sl1Cur_words]
      refine ⟨inR_i64 (by omega), UpTo.next hlt ⟨_, x8, _, rfl, by rw [List.length_append, e3]; omega, by rw [List.length_append, List.length_singleton]; omega, fun z hz => ?_, ho8, hc8.mono (by omega), hg08, hg38⟩⟩
      rcases List.mem_append.1 hz with h | h
      · exact hns z h
      · rw [List.mem_singleton.1 h, hnm]; exact Nat.le_refl _
  · obtain rfl : i = 3 := by omega
    have hltI : ¬ ((3 : Nat) : Int) < ((3 : Nat) : Int) := by omega
    simp only [↓vsd, vsn, gW, qd, qv, ev, pick, argE, zipE, ne_eq, eq_self, forall_const, implies_true, if_true, if_false, reduceIte, reduceCtorEq, Nat.reduceEqDiff, Nat.reduceAdd, Nat.reduceLT, ↓us_sl1Cur_words, r_sl1Cur_words, hltI]
    have hmk : 4 * mK 2 + 4 = 1044 := rfl
    have hml : 4 * mL 2 = 124 := rfl
    refine m_callw (by first | exact .inl rfl | exact .inr rfl) (sl1Cur_block_ok 2 (by omega) W b _ x nl _ (by omega) hns (by omega) (fun w' hg => (ho4.keep hg (fun c hc => by have := Option.some.inj hc; omega)).sq) hc4) ?_
    rintro _ w6 ⟨hc6, hg6, y, rfl, hy⟩
    rw [hmk] at hc6
    simp only [↓vsd, vsn, gW, qd, qv, ev, pick, argE, zipE, ne_eq, eq_self, forall_const, implies_true, if_true, if_false, reduceIte, reduceCtorEq, Nat.reduceEqDiff, Nat.reduceAdd, Nat.reduceLT, ↓us_sl1Cur_words, r_sl1Cur_words]
    exact ⟨by omega, hc6.mono (by omega), grown_trans hg4 hg6, s ++ y, rfl, by rw [List.length_append]; omega⟩
theorem sDrawIsWords_ok (v : Value) (code : List UInt8) (hl : code.length ≤ 1048576) (w : World) (h : Sq fU 1 w v code) : Fn 18 [v] w (fun r _ => ∃ x, r = S x ∧ x.length ≤ 300) := by
  (refine callsV_of mix Tryd.func18 c_sDrawIsWords ?_; simp only [↓vsd, vsn, gW, qd, qv, ev, pick, argE, zipE, ne_eq, eq_self, forall_const, implies_true, if_true, if_false, reduceIte, reduceCtorEq, Nat.reduceEqDiff, Nat.reduceAdd, Nat.reduceLT, ↓us_sDrawIsWords, r_sDrawIsWords])
  simp only [↓vsd, vsn, gW, qd, qv, ev, pick, argE, zipE, ne_eq, eq_self, forall_const, implies_true, if_true, if_false, reduceIte, reduceCtorEq, Nat.reduceEqDiff, Nat.reduceAdd, Nat.reduceLT, ↓us_sDrawIsWords, r_sDrawIsWords, h.facts]
  refine m_al ?_
  rintro b w1 hb hblk hx1 hs1
  have hc := Cur.new h hl hb hblk hx1
  simp only [↓vsd, vsn, gW, qd, qv, ev, pick, argE, zipE, ne_eq, eq_self, forall_const, implies_true, if_true, if_false, reduceIte, reduceCtorEq, Nat.reduceEqDiff, Nat.reduceAdd, Nat.reduceLT, ↓us_sDrawIsWords, r_sDrawIsWords]
  refine m_callw (.inl rfl) (sl1Cur_words_ok w b _ w1 (by omega) hc) ?_
  rintro _ w2 ⟨hc2, hg2, x, rfl, hx⟩
  simp only [↓vsd, vsn, gW, qd, qv, ev, pick, argE, zipE, ne_eq, eq_self, forall_const, implies_true, if_true, if_false, reduceIte, reduceCtorEq, Nat.reduceEqDiff, Nat.reduceAdd, Nat.reduceLT, ↓us_sDrawIsWords, r_sDrawIsWords]
  refine m_callw (.inl rfl) (sl1Cur_one_ok w b _ 3 (by omega) _ (by omega) hc2) ?_
  rintro _ w3 ⟨hc3, hg3, z, rfl⟩
  cases z
  · simp only [↓vsd, vsn, gW, qd, qv, ev, pick, argE, zipE, ne_eq, eq_self, forall_const, implies_true, if_true, if_false, reduceIte, reduceCtorEq, Nat.reduceEqDiff, Nat.reduceAdd, Nat.reduceLT, ↓us_sDrawIsWords, r_sDrawIsWords]
    have hcz := hc3
    have hxl : x.length ≤ 230 := by omega
    refine m_callw (by first | exact .inl rfl | exact .inr rfl) (sl1Cur_one_ok w b _ 30 (by omega) _ (by omega) hcz) ?_
    rintro _ w5 ⟨hc5, hg5, z, rfl⟩
    cases z
    · simp only [↓vsd, vsn, gW, qd, qv, ev, pick, argE, zipE, ne_eq, eq_self, forall_const, implies_true, if_true, if_false, reduceIte, reduceCtorEq, Nat.reduceEqDiff, Nat.reduceAdd, Nat.reduceLT, ↓us_sDrawIsWords, r_sDrawIsWords]
      exact ⟨hc5.base, _, rfl, by omega⟩
    · simp only [↓vsd, vsn, gW, qd, qv, ev, pick, argE, zipE, ne_eq, eq_self, forall_const, implies_true, if_true, if_false, reduceIte, reduceCtorEq, Nat.reduceEqDiff, Nat.reduceAdd, Nat.reduceLT, ↓us_sDrawIsWords, r_sDrawIsWords]
      refine m_bsl (by simp; repeat' constructor) ?_
      rintro b6 w6 hb6 hblk6 hx6 hs6
      have hlt5 := hc5.lt
      simp only [↓vsd, vsn, gW, qd, qv, ev, pick, argE, zipE, ne_eq, eq_self, forall_const, implies_true, if_true, if_false, reduceIte, reduceCtorEq, Nat.reduceEqDiff, Nat.reduceAdd, Nat.reduceLT, ↓us_sDrawIsWords, r_sDrawIsWords]
      refine m_callw (by first | exact .inl rfl | exact .inr rfl) (sl1Cur_among_ok w b _ _ [200, 201] w6 (by omega) (by decide) (hc5.ext hx6) (Sq.litC _ _ fI_len hblk6 rfl rfl (by omega))) ?_
      rintro _ w7 ⟨hc7, hg7, q, rfl, hq⟩
      have hqb : 200 ≤ q ∧ q ≤ 201 := by simp only [List.mem_cons, List.not_mem_nil, or_false] at hq; omega
      obtain ⟨m, rfl⟩ : ∃ m : Nat, q = m := ⟨q.toNat, by omega⟩
      simp only [↓vsd, vsn, gW, qd, qv, ev, pick, argE, zipE, ne_eq, eq_self, forall_const, implies_true, if_true, if_false, reduceIte, reduceCtorEq, Nat.reduceEqDiff, Nat.reduceAdd, Nat.reduceLT, ↓us_sDrawIsWords, r_sDrawIsWords]
      refine m_loop (fun j vs w' => ∃ (t : List UInt8), vs = [S t, .int .i64 j] ∧ t.length + j = m ∧ Ext w7 w') m ⟨[], rfl, by simp, Ext.refl _⟩ ?_
      rintro j vs w8 ⟨t, rfl, htl, hx8⟩
      by_cases hj : 0 < j
      · have hjI : (0 : Int) < j := by omega
        have ej : (j : Int) - 1 = ((j - 1 : Nat) : Int) := by omega
        simp only [↓vsd, vsn, gW, qd, qv, ev, pick, argE, zipE, ne_eq, eq_self, forall_const, implies_true, if_true, if_false, reduceIte, reduceCtorEq, Nat.reduceEqDiff, Nat.reduceAdd, Nat.reduceLT, ↓us_sDrawIsWords, r_sDrawIsWords, hjI, ej]
        exact ⟨by omega, inR_i64 (by omega), j - 1, by omega, t ++ [112], ⟨rfl, rfl⟩, by rw [List.length_append, List.length_singleton]; omega, hx8⟩
      · obtain rfl : j = 0 := by omega
        have hjI : ¬ (0 : Int) < ((0 : Nat) : Int) := by omega
        simp only [↓vsd, vsn, gW, qd, qv, ev, pick, argE, zipE, ne_eq, eq_self, forall_const, implies_true, if_true, if_false, reduceIte, reduceCtorEq, Nat.reduceEqDiff, Nat.reduceAdd, Nat.reduceLT, ↓us_sDrawIsWords, r_sDrawIsWords, hjI]
        exact ⟨hc7.base.trans hx8, t, rfl, by omega⟩
  · simp only [↓vsd, vsn, gW, qd, qv, ev, pick, argE, zipE, ne_eq, eq_self, forall_const, implies_true, if_true, if_false, reduceIte, reduceCtorEq, Nat.reduceEqDiff, Nat.reduceAdd, Nat.reduceLT, ↓us_sDrawIsWords, r_sDrawIsWords]
    refine m_callw (by first | exact .inl rfl | exact .inr rfl) (sl1Cur_spoilt_ok w b _ x [112, 98, 115, 40, 41, 61, 59, 65, 50, 57] _ (by omega) (by omega) (by decide) hc3) ?_
    rintro _ w4 ⟨hc4, hg4, x', rfl, hx'⟩
    simp only [↓vsd, vsn, gW, qd, qv, ev, pick, argE, zipE, ne_eq, eq_self, forall_const, implies_true, if_true, if_false, reduceIte, reduceCtorEq, Nat.reduceEqDiff, Nat.reduceAdd, Nat.reduceLT, ↓us_sDrawIsWords, r_sDrawIsWords]
    have hcz := hc4
    have hxl : x'.length ≤ 230 := by omega
    refine m_callw (by first | exact .inl rfl | exact .inr rfl) (sl1Cur_one_ok w b _ 30 (by omega) _ (by omega) hcz) ?_
    rintro _ w5 ⟨hc5, hg5, z, rfl⟩
    cases z
    · simp only [↓vsd, vsn, gW, qd, qv, ev, pick, argE, zipE, ne_eq, eq_self, forall_const, implies_true, if_true, if_false, reduceIte, reduceCtorEq, Nat.reduceEqDiff, Nat.reduceAdd, Nat.reduceLT, ↓us_sDrawIsWords, r_sDrawIsWords]
      exact ⟨hc5.base, _, rfl, by omega⟩
    · simp only [↓vsd, vsn, gW, qd, qv, ev, pick, argE, zipE, ne_eq, eq_self, forall_const, implies_true, if_true, if_false, reduceIte, reduceCtorEq, Nat.reduceEqDiff, Nat.reduceAdd, Nat.reduceLT, ↓us_sDrawIsWords, r_sDrawIsWords]
      refine m_bsl (by simp; repeat' constructor) ?_
      rintro b6 w6 hb6 hblk6 hx6 hs6
      have hlt5 := hc5.lt
      simp only [↓vsd, vsn, gW, qd, qv, ev, pick, argE, zipE, ne_eq, eq_self, forall_const, implies_true, if_true, if_false, reduceIte, reduceCtorEq, Nat.reduceEqDiff, Nat.reduceAdd, Nat.reduceLT, ↓us_sDrawIsWords, r_sDrawIsWords]
      refine m_callw (by first | exact .inl rfl | exact .inr rfl) (sl1Cur_among_ok w b _ _ [200, 201] w6 (by omega) (by decide) (hc5.ext hx6) (Sq.litC _ _ fI_len hblk6 rfl rfl (by omega))) ?_
      rintro _ w7 ⟨hc7, hg7, q, rfl, hq⟩
      have hqb : 200 ≤ q ∧ q ≤ 201 := by simp only [List.mem_cons, List.not_mem_nil, or_false] at hq; omega
      obtain ⟨m, rfl⟩ : ∃ m : Nat, q = m := ⟨q.toNat, by omega⟩
      simp only [↓vsd, vsn, gW, qd, qv, ev, pick, argE, zipE, ne_eq, eq_self, forall_const, implies_true, if_true, if_false, reduceIte, reduceCtorEq, Nat.reduceEqDiff, Nat.reduceAdd, Nat.reduceLT, ↓us_sDrawIsWords, r_sDrawIsWords]
      refine m_loop (fun j vs w' => ∃ (t : List UInt8), vs = [S t, .int .i64 j] ∧ t.length + j = m ∧ Ext w7 w') m ⟨[], rfl, by simp, Ext.refl _⟩ ?_
      rintro j vs w8 ⟨t, rfl, htl, hx8⟩
      by_cases hj : 0 < j
      · have hjI : (0 : Int) < j := by omega
        have ej : (j : Int) - 1 = ((j - 1 : Nat) : Int) := by omega
        simp only [↓vsd, vsn, gW, qd, qv, ev, pick, argE, zipE, ne_eq, eq_self, forall_const, implies_true, if_true, if_false, reduceIte, reduceCtorEq, Nat.reduceEqDiff, Nat.reduceAdd, Nat.reduceLT, ↓us_sDrawIsWords, r_sDrawIsWords, hjI, ej]
        exact ⟨by omega, inR_i64 (by omega), j - 1, by omega, t ++ [112], ⟨rfl, rfl⟩, by rw [List.length_append, List.length_singleton]; omega, hx8⟩
      · obtain rfl : j = 0 := by omega
        have hjI : ¬ (0 : Int) < ((0 : Nat) : Int) := by omega
        simp only [↓vsd, vsn, gW, qd, qv, ev, pick, argE, zipE, ne_eq, eq_self, forall_const, implies_true, if_true, if_false, reduceIte, reduceCtorEq, Nat.reduceEqDiff, Nat.reduceAdd, Nat.reduceLT, ↓us_sDrawIsWords, r_sDrawIsWords, hjI]
        exact ⟨hc7.base.trans hx8, t, rfl, by omega⟩
theorem sDrawCompileWords_ok (v : Value) (code : List UInt8) (hl : code.length ≤ 1048576) (w : World) (h : Sq fU 1 w v code) : Fn 4 [v] w (fun r _ => ∃ x, r = S x ∧ x.length ≤ 300) := by
  (refine callsV_of mix Tryd.func4 c_sDrawCompileWords ?_; simp only [↓vsd, vsn, gW, qd, qv, ev, pick, argE, zipE, ne_eq, eq_self, forall_const, implies_true, if_true, if_false, reduceIte, reduceCtorEq, Nat.reduceEqDiff, Nat.reduceAdd, Nat.reduceLT, ↓us_sDrawCompileWords, r_sDrawCompileWords])
  refine m_call (sDrawIsWords_ok v code hl _ h) ?_
  rintro _ w1 hx1 ⟨x, rfl, hx⟩
  simp only [↓vsd, vsn, gW, qd, qv, ev, pick, argE, zipE, ne_eq, eq_self, forall_const, implies_true, if_true, if_false, reduceIte, reduceCtorEq, Nat.reduceEqDiff, Nat.reduceAdd, Nat.reduceLT, ↓us_sDrawCompileWords, r_sDrawCompileWords]
  exact ⟨hx1, x, rfl, hx⟩
end Go.Proofs.YtnbnofmnbopknaaDoor
