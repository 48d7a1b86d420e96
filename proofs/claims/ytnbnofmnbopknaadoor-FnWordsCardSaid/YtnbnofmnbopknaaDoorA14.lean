/-
  Programs of calls: what the program answers of one.
  Conditions: none.
-/
import Derived.Test.YtnbnofmnbopknaaDoorA13
set_option linter.unusedSimpArgs false
set_option linter.unusedVariables false
set_option linter.defProp false
namespace Go.Proofs.YtnbnofmnbopknaaDoor
open Go Go.RowKit
section
variable (P : Program) (k : KT) (e : Env) (w : World)
abbrev b19_1 : X := (.cond (.t 19) (.seq (.reg [2, 3, 4] (.c (.q 20 [] (.mv (.t 5))) (.c (.q 2 [] (.mv (.t 20))) (.c (.q 3 [] (.mv (.s []))) (.c (.q 4 [] (.mv (.c (.bool false)))) .nil))))) .ret) .skip)
def t19_1 := b19_1
theorem u19_1 : vcK P t19_1 k e w = vcK P b19_1 k e w := rfl
abbrev b19_2 : X := (.cond (.t 22) .skip (.exit 0))
def t19_2 := b19_2
theorem u19_2 : vcK P t19_2 k e w = vcK P b19_2 k e w := rfl
abbrev b19_3 : X := (.cond (.t 59) (.seq (.reg [2, 3, 4] (.c (.q 60 [] (.mv (.t 5))) (.c (.q 2 [] (.mv (.t 60))) (.c (.q 3 [] (.mv (.s []))) (.c (.q 4 [] (.mv (.c (.bool false)))) .nil))))) .ret) .skip)
def t19_3 := b19_3
theorem u19_3 : vcK P t19_3 k e w = vcK P b19_3 k e w := rfl
abbrev b19_4 : X := (.seq (.reg [0, 5, 6, 7, 59] (.c (.q 50 [] (.mv (.t 8))) (.c (.q 51 [] (.not (.t 50))) (.c (.q 52 [] (.mv (.t 51))) (.c (.q 53 [(52, false)] (.mv (.t 10))) (.c (.q 54 [] (.pick (.t 52) (.c (.bool true)) (.t 53))) (.c (.q 55 [] (.mv (.t 54))) (.c (.q 56 [(55, false)] (.mv (.t 5))) (.c (.e (some 57) [(55, false)] (.call false 33 [(.t 56), (.c (.int .u8 59))])) (.c (.q 58 [(55, false)] (.not (.t 57))) (.c (.q 59 [] (.pick (.t 55) (.c (.bool true)) (.t 58))) .nil))))))))))) t19_3)
def t19_4 := b19_4
theorem u19_4 : vcK P t19_4 k e w = vcK P b19_4 k e w := rfl
abbrev b19_5 : X := (.drw [0, 5] (.c (.q 74 [] (.mv (.t 5))) (.c (.q 75 [] (.mv (.t 5))) (.c (.q 76 [] (.nil (.t 75))) (.c (.q 77 [] (.fa 3 (.t 76))) (.c (.q 78 [] (.ld (.t 77))) (.c (.q 79 [] (.mv (.t 6))) (.c (.e (some 80) [] (.bsl 5 1 [(.t 79)])) (.c (.e (some 81) [] (.b2s (.t 80))) (.c (.e (some 82) [] (.bsl 9 1 [(.t 81)])) (.c (.e (some 83) [] (.app 26 9 1 16 [(S [])] 26 (.t 78) (.t 82))) (.c (.q 84 [] (.nil (.t 74))) (.c (.q 85 [] (.fa 3 (.t 84))) (.c (.e none [] (.st 1 (.t 85) (.t 83))) .nil))))))))))))))
def t19_5 := b19_5
theorem u19_5 : vcK P t19_5 k e w = vcK P b19_5 k e w := rfl
abbrev b19_6 : X := (.seq (.reg [0, 5, 6] (.c (.q 68 [] (.mv (.t 5))) (.c (.q 69 [] (.nil (.t 68))) (.c (.q 70 [] (.fa 2 (.t 69))) (.c (.q 71 [] (.ld (.t 70))) (.c (.q 72 [] (.mv (.t 6))) (.c (.q 73 [] (.mv (.t 7))) (.c (.e none [] (.mup false (.int .u8) (.t 71) (.t 72) (.t 73))) .nil)))))))) t19_5)
def t19_6 := b19_6
theorem u19_6 : vcK P t19_6 k e w = vcK P b19_6 k e w := rfl
abbrev b19_7 : X := (.seq (.reg [0, 5, 6, 7] (.c (.q 61 [] (.mv (.t 5))) (.c (.q 62 [] (.nil (.t 61))) (.c (.q 63 [] (.fa 1 (.t 62))) (.c (.q 64 [] (.ld (.t 63))) (.c (.q 65 [] (.bin .add (.t 64) (.c (.int .i64 1)))) (.c (.q 66 [] (.nil (.t 61))) (.c (.q 67 [] (.fa 1 (.t 66))) (.c (.e none [] (.st 1 (.t 67) (.t 65))) .nil))))))))) t19_6)
def t19_7 := b19_7
theorem u19_7 : vcK P t19_7 k e w = vcK P b19_7 k e w := rfl
abbrev b19_8 : X := (.seq (.seq (.reg [0, 5, 6, 7, 8, 10] (.c (.q 42 [] (.mv (.t 5))) (.c (.q 43 [] (.nil (.t 42))) (.c (.q 44 [] (.fa 2 (.t 43))) (.c (.q 45 [] (.ld (.t 44))) (.c (.q 46 [] (.mv (.t 6))) (.c (.q 47 [] (.mlk true (.int .u8) (S []) (.t 45) (.t 46))) (.c (.q 41 [] (.mv (.t 47))) (.c (.q 48 [] (.ext 0 (.t 41))) (.c (.q 49 [] (.ext 1 (.t 41))) (.c (.q 9 [] (.mv (.t 48))) (.c (.q 10 [] (.mv (.t 49))) .nil)))))))))))) t19_4) t19_7)
def t19_8 := b19_8
theorem u19_8 : vcK P t19_8 k e w = vcK P b19_8 k e w := rfl
abbrev b19_9 : X := (.seq (.reg [0, 5, 6, 7, 8] (.c (.q 37 [] (.mv (.t 5))) (.c (.e (some 38) [] (.call true 32 [(.t 37)])) (.c (.q 36 [] (.mv (.t 38))) (.c (.q 39 [] (.ext 0 (.t 36))) (.c (.q 40 [] (.ext 1 (.t 36))) (.c (.q 7 [] (.mv (.t 39))) (.c (.q 8 [] (.mv (.t 40))) .nil)))))))) t19_8)
def t19_9 := b19_9
theorem u19_9 : vcK P t19_9 k e w = vcK P b19_9 k e w := rfl
abbrev b19_10 : X := (.seq (.reg [0, 5, 6] (.c (.q 29 [] (.mv (.t 5))) (.c (.q 30 [] (.nil (.t 29))) (.c (.q 31 [] (.fa 1 (.t 30))) (.c (.q 32 [] (.ld (.t 31))) (.c (.q 33 [] (.bin .add (.t 32) (.c (.int .i64 2)))) (.c (.q 34 [] (.nil (.t 29))) (.c (.q 35 [] (.fa 1 (.t 34))) (.c (.e none [] (.st 1 (.t 35) (.t 33))) .nil))))))))) t19_9)
def t19_10 := b19_10
theorem u19_10 : vcK P t19_10 k e w = vcK P b19_10 k e w := rfl
abbrev b19_11 : X := (.blk 1 (.seq (.reg [0, 5, 6] (.c (.q 23 [] (.mv (.t 0))) (.c (.q 24 [] (.mv (.t 5))) (.c (.q 25 [] (.nil (.t 24))) (.c (.q 26 [] (.fa 1 (.t 25))) (.c (.q 27 [] (.ld (.t 26))) (.c (.q 28 [] (.idx (.t 23) (.t 27))) (.c (.q 6 [] (.mv (.t 28))) .nil)))))))) t19_10))
def t19_11 := b19_11
theorem u19_11 : vcK P t19_11 k e w = vcK P b19_11 k e w := rfl
abbrev b19_12 : X := (.seq (.seq (.reg [0, 5, 22] (.c (.q 21 [] (.mv (.t 5))) (.c (.e (some 22) [] (.call false 31 [(.t 21)])) .nil))) t19_2) t19_11)
def t19_12 := b19_12
theorem u19_12 : vcK P t19_12 k e w = vcK P b19_12 k e w := rfl
abbrev b19_13 : X := (.seq (.drw [2, 3, 4] (.c (.q 91 [] (.mv (.t 5))) (.c (.q 92 [] (.mv (.t 11))) (.c (.q 93 [] (.mv (.t 12))) (.c (.q 94 [] (.mv (.t 93))) (.c (.q 95 [(94, true)] (.mv (.t 5))) (.c (.q 96 [(94, true)] (.nil (.t 95))) (.c (.q 97 [(94, true)] (.fa 1 (.t 96))) (.c (.q 98 [(94, true)] (.ld (.t 97))) (.c (.q 99 [(94, true)] (.mv (.t 0))) (.c (.q 100 [(94, true)] (.len (.t 99))) (.c (.q 101 [(94, true)] (.bin .eql (.t 98) (.t 100))) (.c (.q 102 [] (.pick (.t 94) (.t 101) (.c (.bool false)))) (.c (.q 2 [] (.mv (.t 91))) (.c (.q 3 [] (.mv (.t 92))) (.c (.q 4 [] (.mv (.t 102))) .nil)))))))))))))))) .ret)
def t19_13 := b19_13
theorem u19_13 : vcK P t19_13 k e w = vcK P b19_13 k e w := rfl
abbrev b19_14 : X := (.seq (.reg [0, 5, 11, 12] (.c (.q 87 [] (.mv (.t 5))) (.c (.e (some 88) [] (.call true 32 [(.t 87)])) (.c (.q 86 [] (.mv (.t 88))) (.c (.q 89 [] (.ext 0 (.t 86))) (.c (.q 90 [] (.ext 1 (.t 86))) (.c (.q 11 [] (.mv (.t 89))) (.c (.q 12 [] (.mv (.t 90))) .nil)))))))) t19_13)
def t19_14 := b19_14
theorem u19_14 : vcK P t19_14 k e w = vcK P b19_14 k e w := rfl
abbrev b19_15 : X := (.seq (.blk 0 (.loop [] [0, 5] t19_12)) t19_14)
def t19_15 := b19_15
theorem u19_15 : vcK P t19_15 k e w = vcK P b19_15 k e w := rfl
abbrev b19_16 : X := (.seq (.seq (.reg [0, 5, 19] (.c (.q 17 [] (.mv (.t 0))) (.c (.q 18 [] (.len (.t 17))) (.c (.q 19 [] (.bin .gtr (.t 18) (.c (.int .i64 200)))) .nil)))) t19_1) t19_15)
def t19_16 := b19_16
theorem u19_16 : vcK P t19_16 k e w = vcK P b19_16 k e w := rfl
abbrev b19_17 : X := (.seq (.reg [0, 5] (.c (.q 13 [] (.mv (.t 0))) (.c (.e (some 14) [] .mkmap) (.c (.q 15 [] (.bld [(S []), (.int .i64 0), (.map none), (.slice none 0 0), (.int .i64 0), (.int .i64 0)] [(0, 0, (.t 13)), (2, 0, (.t 14))])) (.c (.e (some 16) [] (.box 44 (.t 15))) (.c (.q 5 [] (.mv (.t 16))) .nil)))))) t19_16)
def t19_17 := b19_17
theorem u19_17 : vcK P t19_17 k e w = vcK P b19_17 k e w := rfl
abbrev b19_0 : X := (.seq (.reg [0] (.c (.q 2 [] (.mv (.c (.pointer none)))) (.c (.q 3 [] (.mv (.s []))) (.c (.q 4 [] (.mv (.c (.bool false)))) .nil)))) t19_17)
def x_ireadProgram := b19_0
theorem u19_0 : vcK P x_ireadProgram k e w = vcK P b19_0 k e w := rfl
def r_ireadProgram : List XO := [(.mv (.t 2)), (.mv (.t 3)), (.mv (.t 4))]
theorem c_ireadProgram : convF Tryd.prog [27, 28, 29, 30, 32, 36, 40, 45, 46, 47, 50, 51, 52, 61, 62, 98] Tryd.f19 [([0], []), ([0, 5], []), ([0, 5, 19], []), ([2, 3, 4], []), ([], [0, 5]), ([0, 5, 22], []), ([0, 5, 6], []), ([0, 5, 6], []), ([0, 5, 6, 7, 8], []), ([0, 5, 6, 7, 8, 10], []), ([0, 5, 6, 7, 59], []), ([2, 3, 4], []), ([0, 5, 6, 7], []), ([0, 5, 6], []), ([0, 5], []), ([0, 5, 11, 12], []), ([2, 3, 4], [])] = some (x_ireadProgram, r_ireadProgram) := by kernel_rfl
def us_ireadProgram :=  (aI (aI (aI (aI @u19_0 @u19_1) (aI @u19_2 @u19_3)) (aI (aI @u19_4 @u19_5) (aI @u19_6 (aI @u19_7 @u19_8)))) (aI (aI (aI @u19_9 @u19_10) (aI @u19_11 @u19_12)) (aI (aI @u19_13 @u19_14) (aI @u19_15 (aI @u19_16 @u19_17)))))
abbrev b15_1 : X := (.seq (.reg [2] (.c (.q 12 [] (.mv (.t 5))) (.c (.q 2 [] (.mv (.t 12))) .nil))) .ret)
def t15_1 := b15_1
theorem u15_1 : vcK P t15_1 k e w = vcK P b15_1 k e w := rfl
abbrev b15_2 : X := (.seq (.reg [5] (.c (.q 7 [] (.mv (.t 0))) (.c (.e (some 8) [] (.call false 19 [(.t 7)])) (.c (.q 6 [] (.mv (.t 8))) (.c (.q 9 [] (.ext 0 (.t 6))) (.c (.q 10 [] (.ext 1 (.t 6))) (.c (.q 11 [] (.ext 2 (.t 6))) (.c (.q 3 [] (.mv (.t 9))) (.c (.q 4 [] (.mv (.t 10))) (.c (.q 5 [] (.mv (.t 11))) .nil)))))))))) t15_1)
def t15_2 := b15_2
theorem u15_2 : vcK P t15_2 k e w = vcK P b15_2 k e w := rfl
abbrev b15_0 : X := (.seq (.reg [0] (.c (.q 2 [] (.mv (.c (.bool false)))) .nil)) t15_2)
def x_iIsWords := b15_0
theorem u15_0 : vcK P x_iIsWords k e w = vcK P b15_0 k e w := rfl
def r_iIsWords : List XO := [(.mv (.t 2))]
theorem c_iIsWords : convF Tryd.prog [27, 28, 29, 30, 32, 36, 40, 45, 46, 47, 50, 51, 52, 61, 62, 98] Tryd.f15 [([0], []), ([5], []), ([2], [])] = some (x_iIsWords, r_iIsWords) := by kernel_rfl
def us_iIsWords :=  (aI @u15_0 (aI @u15_1 @u15_2))
abbrev b7_1 : X := (.cond (.t 14) (.seq (.reg [2, 3] (.c (.q 2 [] (.mv (.c (.slice none 0 0)))) (.c (.q 3 [] (.mv (.c (.bool false)))) .nil))) .ret) .skip)
def t7_1 := b7_1
theorem u7_1 : vcK P t7_1 k e w = vcK P b7_1 k e w := rfl
abbrev b7_2 : X := (.seq (.reg [2, 3] (.c (.q 15 [] (.mv (.t 4))) (.c (.q 16 [] (.nil (.t 15))) (.c (.q 17 [] (.fa 3 (.t 16))) (.c (.q 18 [] (.ld (.t 17))) (.c (.q 2 [] (.mv (.t 18))) (.c (.q 3 [] (.mv (.c (.bool true)))) .nil))))))) .ret)
def t7_2 := b7_2
theorem u7_2 : vcK P t7_2 k e w = vcK P b7_2 k e w := rfl
abbrev b7_3 : X := (.seq (.seq (.reg [4, 14] (.c (.q 13 [] (.mv (.t 6))) (.c (.q 14 [] (.not (.t 13))) .nil))) t7_1) t7_2)
def t7_3 := b7_3
theorem u7_3 : vcK P t7_3 k e w = vcK P b7_3 k e w := rfl
abbrev b7_4 : X := (.seq (.reg [4, 6] (.c (.q 8 [] (.mv (.t 0))) (.c (.e (some 9) [] (.call false 19 [(.t 8)])) (.c (.q 7 [] (.mv (.t 9))) (.c (.q 10 [] (.ext 0 (.t 7))) (.c (.q 11 [] (.ext 1 (.t 7))) (.c (.q 12 [] (.ext 2 (.t 7))) (.c (.q 4 [] (.mv (.t 10))) (.c (.q 5 [] (.mv (.t 11))) (.c (.q 6 [] (.mv (.t 12))) .nil)))))))))) t7_3)
def t7_4 := b7_4
theorem u7_4 : vcK P t7_4 k e w = vcK P b7_4 k e w := rfl
abbrev b7_0 : X := (.seq (.reg [0] (.c (.q 2 [] (.mv (.c (.slice none 0 0)))) (.c (.q 3 [] (.mv (.c (.bool false)))) .nil))) t7_4)
def x_iNamesIn := b7_0
theorem u7_0 : vcK P x_iNamesIn k e w = vcK P b7_0 k e w := rfl
def r_iNamesIn : List XO := [(.mv (.t 2)), (.mv (.t 3))]
theorem c_iNamesIn : convF Tryd.prog [27, 28, 29, 30, 32, 36, 40, 45, 46, 47, 50, 51, 52, 61, 62, 98] Tryd.f7 [([0], []), ([4, 6], []), ([4, 14], []), ([2, 3], []), ([2, 3], [])] = some (x_iNamesIn, r_iNamesIn) := by kernel_rfl
def us_iNamesIn :=  (aI (aI @u7_0 @u7_1) (aI @u7_2 (aI @u7_3 @u7_4)))
abbrev b5_1 : X := (.cond (.t 19) (.seq (.reg [2, 3] (.c (.q 2 [] (.mv (.s []))) (.c (.q 3 [] (.mv (.c (.bool false)))) .nil))) .ret) .skip)
def t5_1 := b5_1
theorem u5_1 : vcK P t5_1 k e w = vcK P b5_1 k e w := rfl
abbrev b5_2 : X := (.seq (.reg [2, 3] (.c (.q 20 [] (.mv (.t 5))) (.c (.q 2 [] (.mv (.t 20))) (.c (.q 3 [] (.mv (.c (.bool true)))) .nil)))) .ret)
def t5_2 := b5_2
theorem u5_2 : vcK P t5_2 k e w = vcK P b5_2 k e w := rfl
abbrev b5_3 : X := (.seq (.seq (.reg [5, 19] (.c (.q 13 [] (.mv (.t 6))) (.c (.q 14 [] (.not (.t 13))) (.c (.q 15 [] (.mv (.t 14))) (.c (.q 16 [(15, false)] (.mv (.t 5))) (.c (.e (some 17) [(15, false)] (.call false 20 [(.t 16)])) (.c (.q 18 [(15, false)] (.not (.t 17))) (.c (.q 19 [] (.pick (.t 15) (.c (.bool true)) (.t 18))) .nil)))))))) t5_1) t5_2)
def t5_3 := b5_3
theorem u5_3 : vcK P t5_3 k e w = vcK P b5_3 k e w := rfl
abbrev b5_4 : X := (.seq (.reg [5, 6] (.c (.q 8 [] (.mv (.t 0))) (.c (.e (some 9) [] (.call false 19 [(.t 8)])) (.c (.q 7 [] (.mv (.t 9))) (.c (.q 10 [] (.ext 0 (.t 7))) (.c (.q 11 [] (.ext 1 (.t 7))) (.c (.q 12 [] (.ext 2 (.t 7))) (.c (.q 4 [] (.mv (.t 10))) (.c (.q 5 [] (.mv (.t 11))) (.c (.q 6 [] (.mv (.t 12))) .nil)))))))))) t5_3)
def t5_4 := b5_4
theorem u5_4 : vcK P t5_4 k e w = vcK P b5_4 k e w := rfl
abbrev b5_0 : X := (.seq (.reg [0] (.c (.q 2 [] (.mv (.s []))) (.c (.q 3 [] (.mv (.c (.bool false)))) .nil))) t5_4)
def x_iCompileWords := b5_0
theorem u5_0 : vcK P x_iCompileWords k e w = vcK P b5_0 k e w := rfl
def r_iCompileWords : List XO := [(.mv (.t 2)), (.mv (.t 3))]
theorem c_iCompileWords : convF Tryd.prog [27, 28, 29, 30, 32, 36, 40, 45, 46, 47, 50, 51, 52, 61, 62, 98] Tryd.f5 [([0], []), ([5, 6], []), ([5, 19], []), ([2, 3], []), ([2, 3], [])] = some (x_iCompileWords, r_iCompileWords) := by kernel_rfl
def us_iCompileWords :=  (aI (aI @u5_0 @u5_1) (aI @u5_2 (aI @u5_3 @u5_4)))
abbrev b9_1 : X := (.cond (.t 14) (.seq (.reg [2, 3] (.c (.q 2 [] (.mv (.c (.int .i64 0)))) (.c (.q 3 [] (.mv (.c (.bool false)))) .nil))) .ret) .skip)
def t9_1 := b9_1
theorem u9_1 : vcK P t9_1 k e w = vcK P b9_1 k e w := rfl
abbrev b9_2 : X := (.seq (.reg [2, 3] (.c (.q 15 [] (.mv (.t 4))) (.c (.q 16 [] (.nil (.t 15))) (.c (.q 17 [] (.fa 5 (.t 16))) (.c (.q 18 [] (.ld (.t 17))) (.c (.q 2 [] (.mv (.t 18))) (.c (.q 3 [] (.mv (.c (.bool true)))) .nil))))))) .ret)
def t9_2 := b9_2
theorem u9_2 : vcK P t9_2 k e w = vcK P b9_2 k e w := rfl
abbrev b9_3 : X := (.seq (.seq (.reg [4, 14] (.c (.q 13 [] (.mv (.t 6))) (.c (.q 14 [] (.not (.t 13))) .nil))) t9_1) t9_2)
def t9_3 := b9_3
theorem u9_3 : vcK P t9_3 k e w = vcK P b9_3 k e w := rfl
abbrev b9_4 : X := (.seq (.reg [4, 6] (.c (.q 8 [] (.mv (.t 0))) (.c (.e (some 9) [] (.call false 19 [(.t 8)])) (.c (.q 7 [] (.mv (.t 9))) (.c (.q 10 [] (.ext 0 (.t 7))) (.c (.q 11 [] (.ext 1 (.t 7))) (.c (.q 12 [] (.ext 2 (.t 7))) (.c (.q 4 [] (.mv (.t 10))) (.c (.q 5 [] (.mv (.t 11))) (.c (.q 6 [] (.mv (.t 12))) .nil)))))))))) t9_3)
def t9_4 := b9_4
theorem u9_4 : vcK P t9_4 k e w = vcK P b9_4 k e w := rfl
abbrev b9_0 : X := (.seq (.reg [0] (.c (.q 2 [] (.mv (.c (.int .i64 0)))) (.c (.q 3 [] (.mv (.c (.bool false)))) .nil))) t9_4)
def x_iDepthOf := b9_0
theorem u9_0 : vcK P x_iDepthOf k e w = vcK P b9_0 k e w := rfl
def r_iDepthOf : List XO := [(.mv (.t 2)), (.mv (.t 3))]
theorem c_iDepthOf : convF Tryd.prog [27, 28, 29, 30, 32, 36, 40, 45, 46, 47, 50, 51, 52, 61, 62, 98] Tryd.f9 [([0], []), ([4, 6], []), ([4, 14], []), ([2, 3], []), ([2, 3], [])] = some (x_iDepthOf, r_iDepthOf) := by kernel_rfl
def us_iDepthOf :=  (aI (aI @u9_0 @u9_1) (aI @u9_2 (aI @u9_3 @u9_4)))
abbrev b20_1 : X := (.seq (.reg [2] (.c (.q 3 [] (.mv (.t 0))) (.c (.q 4 [] (.len (.t 3))) (.c (.q 5 [] (.bin .geq (.t 4) (.c (.int .i64 1)))) (.c (.q 6 [] (.mv (.t 5))) (.c (.q 7 [(6, true)] (.mv (.t 0))) (.c (.q 8 [(6, true)] (.len (.t 7))) (.c (.q 9 [(6, true)] (.bin .leq (.t 8) (.c (.int .i64 60)))) (.c (.q 10 [] (.pick (.t 6) (.t 9) (.c (.bool false)))) (.c (.q 11 [] (.mv (.t 10))) (.c (.q 12 [(11, true)] (.mv (.t 0))) (.c (.e (some 13) [(11, true)] (.call false 34 [(.t 12)])) (.c (.q 14 [] (.pick (.t 11) (.t 13) (.c (.bool false)))) (.c (.q 2 [] (.mv (.t 14))) .nil)))))))))))))) .ret)
def t20_1 := b20_1
theorem u20_1 : vcK P t20_1 k e w = vcK P b20_1 k e w := rfl
abbrev b20_0 : X := (.seq (.reg [0] (.c (.q 2 [] (.mv (.c (.bool false)))) .nil)) t20_1)
def x_iGoodTouch := b20_0
theorem u20_0 : vcK P x_iGoodTouch k e w = vcK P b20_0 k e w := rfl
def r_iGoodTouch : List XO := [(.mv (.t 2))]
theorem c_iGoodTouch : convF Tryd.prog [27, 28, 29, 30, 32, 36, 40, 45, 46, 47, 50, 51, 52, 61, 62, 98] Tryd.f20 [([0], []), ([2], [])] = some (x_iGoodTouch, r_iGoodTouch) := by kernel_rfl
def us_iGoodTouch :=  (aI @u20_0 @u20_1)
end

/-- A touch: calls alone, 1 to 60 of them. -/
def IsTouch (l : List UInt8) : Prop := (1 ≤ l.length ∧ l.length ≤ 60) ∧ ∀ c ∈ l, IsCallB c
instance (l : List UInt8) : Decidable (IsTouch l) := by unfold IsTouch; infer_instance
theorem getD_mem' {α : Type} {l : List α} {k : Nat} (d : α) (h : k < l.length) : l.getD k d ∈ l := by rw [List.getD_eq_getElem?_getD, List.getElem?_eq_getElem h]; exact List.getElem_mem h
theorem mem_take' {α : Type} {l : List α} {k : Nat} {d x : α} (h : k < l.length) (hx : x ∈ l.take (k + 1)) : x ∈ l.take k ∨ x = l.getD k d := by
  rw [List.take_add_one, List.getElem?_eq_getElem h] at hx
  rcases List.mem_append.1 hx with h' | h'
  · exact .inl h'
  · rw [List.getD_eq_getElem?_getD, List.getElem?_eq_getElem h]
    exact .inr (by simpa using h')
theorem iareCalls_ok (l : List UInt8) (hl : l.length ≤ 1000000000) (w : World) : Fn 34 [S l] w (fun r _ => r = .bool (decide (∀ c ∈ l, IsCallB c))) := by
  (refine callsV_of mix Tryd.func34 c_iareCalls ?_; simp only [↓vsd, vsn, gW, qd, qv, ev, pick, argE, zipE, ne_eq, eq_self, forall_const, implies_true, if_true, if_false, reduceIte, reduceCtorEq, Nat.reduceEqDiff, Nat.reduceAdd, Nat.reduceLT, ↓us_iareCalls, r_iareCalls])
  refine m_upto l.length (fun k vs w' => vs = [.int .i64 k] ∧ (∀ c ∈ l.take k, IsCallB c) ∧ Ext w w') ⟨rfl, by simp, Ext.refl _⟩ ?_
  rintro k vs w1 hk ⟨rfl, hc, hx⟩
  by_cases hlt : k < l.length
  · have hltI : (k : Int) < l.length := by omega
    have hltJ : ¬ (l.length : Int) ≤ k := by omega
    simp only [↓vsd, vsn, gW, qd, qv, ev, pick, argE, zipE, ne_eq, eq_self, forall_const, implies_true, if_true, if_false, reduceIte, reduceCtorEq, Nat.reduceEqDiff, Nat.reduceAdd, Nat.reduceLT, ↓us_iareCalls, r_iareCalls, hltI, hltJ]
    have e1 : (l.take (k + 1)).drop k = [l.getD k 0] := by
      rw [List.take_add_one, List.drop_append, List.getD_eq_getElem?_getD, List.getElem?_eq_getElem (by omega)]
      simp [Nat.min_eq_left (show k ≤ l.length by omega)]
    rw [e1]
    refine ⟨inR_i64 (by omega), by omega, m_call (iisCall_ok _ _) ?_⟩
    rintro _ w2 hx2 rfl
    simp only [↓vsd, vsn, gW, qd, qv, ev, pick, argE, zipE, ne_eq, eq_self, forall_const, implies_true, if_true, if_false, reduceIte, reduceCtorEq, Nat.reduceEqDiff, Nat.reduceAdd, Nat.reduceLT, ↓us_iareCalls, r_iareCalls]
    refine ⟨fun hno => ⟨hx.trans hx2, ?_⟩, fun hy => ⟨inR_i64 (by omega), UpTo.next hlt ⟨rfl, fun c hc' => ?_, hx.trans hx2⟩⟩⟩
    · have : ¬ ∀ c ∈ l, IsCallB c := fun h => by
        rcases h _ (getD_mem' 0 hlt) with h | h | h
        · exact hno.1 (u8_eq h)
        · exact hno.2.1 (u8_eq h)
        · exact hno.2.2 (u8_eq h)
      simp only [this, decide_false]
    · rcases mem_take' (d := 0) hlt hc' with h | rfl
      · exact hc c h
      · by_cases h1 : l.getD k 0 = 112
        · exact .inl (by rw [h1]; rfl)
        · by_cases h2 : l.getD k 0 = 98
          · exact .inr (.inl (by rw [h2]; rfl))
          · by_cases h3 : l.getD k 0 = 115
            · exact .inr (.inr (by rw [h3]; rfl))
            · exact absurd ⟨h1, h2, h3⟩ hy
  · obtain rfl : k = l.length := by omega
    have hltI : ¬ (l.length : Int) < l.length := by omega
    simp only [↓vsd, vsn, gW, qd, qv, ev, pick, argE, zipE, ne_eq, eq_self, forall_const, implies_true, if_true, if_false, reduceIte, reduceCtorEq, Nat.reduceEqDiff, Nat.reduceAdd, Nat.reduceLT, ↓us_iareCalls, r_iareCalls, hltI]
    rw [List.take_length] at hc
    exact ⟨hx, by simp only [decide_eq_true hc]⟩
theorem iGoodTouch_ok (l : List UInt8) (hl : l.length ≤ 1000000000) (w : World) : Fn 20 [S l] w (fun r _ => r = .bool (decide (IsTouch l))) := by
  (refine callsV_of mix Tryd.func20 c_iGoodTouch ?_; simp only [↓vsd, vsn, gW, qd, qv, ev, pick, argE, zipE, ne_eq, eq_self, forall_const, implies_true, if_true, if_false, reduceIte, reduceCtorEq, Nat.reduceEqDiff, Nat.reduceAdd, Nat.reduceLT, ↓us_iGoodTouch, r_iGoodTouch])
  refine ⟨fun h => m_call (iareCalls_ok l hl _) ?_, fun h => ⟨Ext.refl _, ?_⟩⟩
  · rintro _ w1 hx1 rfl
    simp only [↓vsd, vsn, gW, qd, qv, ev, pick, argE, zipE, ne_eq, eq_self, forall_const, implies_true, if_true, if_false, reduceIte, reduceCtorEq, Nat.reduceEqDiff, Nat.reduceAdd, Nat.reduceLT, ↓us_iGoodTouch, r_iGoodTouch]
    refine ⟨hx1, ?_⟩
    simp only [← Bool.decide_and]
    congr 1
    exact propext ⟨fun h2 => ⟨by omega, h2.2⟩, fun h2 => ⟨by omega, h2.2⟩⟩
  · have : ¬ IsTouch l := fun h2 => h (by have := h2.1; omega)
    simp only [this, decide_false]
theorem m_mkmap {P : Program} {m : Option World} {ps : List Nat} {k : KT} {r : XT} {d : Option Nat} {l : EL} {w : World} (h : ∀ b w', b = w.heap.size → mapAt w' (.map (some b)) = some [] → Ext w w' → w'.heap.size = b + 1 → ∀ s, ops P m ps k r (setO ⟨l, s⟩ d (.map (some b))) w') : mkmapL P m ps k r d l w := by
  unfold mkmapL mkmapK
  intro s
  exact h _ _ rfl (by simp only [mapAt, heap_alloc_new]; rfl) (Ext.alloc w _) (by simp) s
theorem put_kn {kn : List (UInt8 × List UInt8)} {c : UInt8} (t : List UInt8) (h : kn.lookup c = none) : putE (.int .u8) (.int .u8 (c.toNat : Nat)) (S t) (knE kn) = knE (kn ++ [(c, t)]) := by
  induction kn with
  | nil => rfl
  | cons p kn ih =>
    obtain ⟨d, u⟩ := p
    rw [List.lookup_cons] at h
    by_cases hc : c = d
    · subst hc
      simp at h
    · have h2 : (c == d) = false := by rw [beq_eq_false_iff_ne]; exact hc
      rw [h2] at h
      have h1 : (((c.toNat : Nat) : Int) == ((d.toNat : Nat) : Int)) = false := by
        rw [beq_eq_false_iff_ne]
        exact fun e => hc (UInt8.toNat_inj.1 (by omega))
      have := ih h
      simp only [knE, List.map_cons, putE, sameK, Instr.sameNow, if_true, h1, List.cons_append] at this ⊢
      rw [this]
theorem own_mono {α : Type} {f : α → List Value} {z E B B' : Nat} {w : World} {v : Value} {l : List α} (h : Own f z E B w v l) (hB : B' ≤ B) : Own f z E B' w v l :=
  ⟨h.1, h.2.imp id fun ⟨g, cap, cur, e, hg, hr⟩ => ⟨g, cap, cur, e, Nat.le_trans hB hg, hr⟩⟩
/-- The defined names. -/
def namesL (kn : List (UInt8 × List UInt8)) : List (List UInt8) := kn.map fun p => [p.1]
/-- What the reader hands back. -/
def ReadR (s : List UInt8) (w : World) (r : Value) (w' : World) : Prop := ∃ (b : Nat) (out : List UInt8) (ok : Bool) (a most : Nat) (mp nm : Value), r = .tuple ⟨[.pointer (some ⟨b, 0, none⟩), S out, .bool ok]⟩ ∧ Blk w' b (fP s a mp nm 0 most) 44 ∧
  match progL s with
  | none => ok = false
  | some (out', kn, most') => ok = true ∧ out = out' ∧ most = most' ∧ most ≤ 600 ∧ out.length ≤ 61 ∧ kn.length ≤ 1000 ∧ Own fS 1 9 w.heap.size w' nm (namesL kn)
theorem ireadProgram_ok (s : List UInt8) (hs : s.length ≤ 1048576) (w : World) : Fn 19 [S s] w (ReadR s w) := by
  (refine callsV_of mix Tryd.func19 c_ireadProgram ?_; simp only [↓vsd, vsn, gW, qd, qv, ev, pick, argE, zipE, ne_eq, eq_self, forall_const, implies_true, if_true, if_false, reduceIte, reduceCtorEq, Nat.reduceEqDiff, Nat.reduceAdd, Nat.reduceLT, ↓us_ireadProgram, r_ireadProgram])
  refine m_mkmap ?_
  rintro km w1 hkm hm1 hx1 hs1
  simp only [↓vsd, vsn, gW, qd, qv, ev, pick, argE, zipE, ne_eq, eq_self, forall_const, implies_true, if_true, if_false, reduceIte, reduceCtorEq, Nat.reduceEqDiff, Nat.reduceAdd, Nat.reduceLT, ↓us_ireadProgram, r_ireadProgram]
  refine m_al ?_
  rintro b w2 hb hblk2 hx2 hs2
  have hb2 : Blk w2 b (fP s 0 (.map (some km)) (.slice none 0 0) 0 0) 44 := hblk2
  have hx12 := hx1.trans hx2
  have hm2 : mapAt w2 (.map (some km)) = some (knE []) := mapAt_grown hm1 (grown_ext none hx2) (by simp)
  simp only [↓vsd, vsn, gW, qd, qv, ev, pick, argE, zipE, ne_eq, eq_self, forall_const, implies_true, if_true, if_false, reduceIte, reduceCtorEq, Nat.reduceEqDiff, Nat.reduceAdd, Nat.reduceLT, ↓us_ireadProgram, r_ireadProgram]
  refine ⟨fun hbig => ⟨hx12, b, [], false, 0, 0, _, _, rfl, hb2, ?_⟩, fun hsm => ?_⟩
  · rw [progL, if_neg (by omega)]
  have hs200 : s.length ≤ 200 := by omega
  have hbw : w.heap.size ≤ b := by have := hx1.size; omega
  have hkb : km ≠ b := by omega
  refine m_loop (fun m vs w' => ∃ (a most : Nat) (nm : Value) (kn : List (UInt8 × List UInt8)), vs = [] ∧ a ≤ s.length ∧ s.length - a < m ∧ most ≤ 600 ∧ kn.length ≤ a ∧ (∀ p ∈ kn, p.2.length ≤ 61) ∧ Blk w' b (fP s a (.map (some km)) nm 0 most) 44 ∧ mapAt w' (.map (some km)) = some (knE kn) ∧
    Own fS 1 9 (b + 1) w' nm (namesL kn) ∧ Ext w w' ∧ defs s m a kn most = defs s 1000 0 [] 0) 1000 ⟨0, 0, _, [], rfl, by omega, by omega, by omega, by simp, by simp, hb2, hm2, Own.nil fS_len, hx12, rfl⟩ ?_
  rintro m vs w3 ⟨a, most, nm, kn, rfl, ha, ham, hmo, hkl, hkn, hb3, hm3, ho3, hx3, hR⟩
  obtain ⟨g, rfl⟩ : ∃ g, m = g + 1 := ⟨m - 1, by omega⟩
  rw [defs] at hR
  simp only [↓vsd, vsn, gW, qd, qv, ev, pick, argE, zipE, ne_eq, eq_self, forall_const, implies_true, if_true, if_false, reduceIte, reduceCtorEq, Nat.reduceEqDiff, Nat.reduceAdd, Nat.reduceLT, ↓us_ireadProgram, r_ireadProgram]
  refine m_call (iprogram_isDefinition_ok s a (by omega) _ _ _ _ b _ hb3) ?_
  rintro _ w4 hx4 rfl
  have hb4 := hb3.ext hx4
  have hm4 : mapAt w4 (.map (some km)) = some (knE kn) := mapAt_grown hm3 (grown_ext none hx4) (by simp)
  have ho4 := ho3.ext hx4
  have hx14 := hx3.trans hx4
  by_cases hdef : a + 1 < s.length ∧ (65 ≤ (s.getD a 0).toNat ∧ (s.getD a 0).toNat ≤ 90) ∧ (s.getD (a + 1) 0).toNat = 61
  · have hdT := decide_eq_true hdef
    simp only [↓vsd, vsn, gW, qd, qv, ev, pick, argE, zipE, ne_eq, eq_self, forall_const, implies_true, if_true, if_false, reduceIte, reduceCtorEq, Nat.reduceEqDiff, Nat.reduceAdd, Nat.reduceLT, ↓us_ireadProgram, r_ireadProgram, hdT, hb4.facts, fPg]
    have hletter := hdef.2.1
    refine ⟨by omega, inR_i64 (by omega), m_st hb4 rfl (by decide : 1 + 1 ≤ 6) (fI_one _) ?_⟩
    rintro w5 hb5' hu5
    have hb5 : Blk w5 b (fP s (a + 2 : Nat) (.map (some km)) nm 0 most) 44 := hb5'
    have hx5 : Ext w w5 := hu5.below hx14 hbw
    have hm5 : mapAt w5 (.map (some km)) = some (knE kn) := mapAt_grown hm4 hu5.grown (by simpa using hkb)
    have ho5 := ho4.keep hu5.grown (fun c hc => by have := Option.some.inj hc; omega)
    have hcall := iprogram_block_ok 1000 s kn km nm 0 most (a + 2) b w5 (by omega) (by omega) hs200 (by omega) hmo hkn hkb hb5 hm5
    simp only [↓vsd, vsn, gW, qd, qv, ev, pick, argE, zipE, ne_eq, eq_self, forall_const, implies_true, if_true, if_false, reduceIte, reduceCtorEq, Nat.reduceEqDiff, Nat.reduceAdd, Nat.reduceLT, ↓us_ireadProgram, r_ireadProgram]
    refine m_callw (.inl rfl) hcall ?_
    rintro r w6 ⟨a6, most6, hb6, hg6, ha6, hal6, hmm6, hR6⟩
    have hx6 : Ext w w6 := Below.trans hx5 ⟨hg6.os, hg6.tape, hg6.output, hg6.size, fun i hi => hg6.block i (by have := hx5.size; omega) (fun e => by have := Option.some.inj e; omega)⟩
    have hm6 : mapAt w6 (.map (some km)) = some (knE kn) := mapAt_grown hm5 hg6 (by simpa using hkb)
    have ho6 := ho5.keep hg6 (fun c hc => by have := Option.some.inj hc; omega)
    have hd1 : a + 1 < s.length ∧ (s.getD (a + 1) 0).toNat = 61 := ⟨hdef.1, hdef.2.2⟩
    rw [if_pos hd1] at hR
    have hmf := mp_facts hm6 (s.getD a 0)
    have hr1 : ∀ z v, mlkR true z (some (some v)) = .tuple ⟨[v, .bool true]⟩ := fun _ _ => rfl
    have hr2 : ∀ z, mlkR true z (some none) = .tuple ⟨[z, .bool false]⟩ := fun _ => rfl
    have hfail : (List.lookup (s.getD a 0) kn ≠ none ∨ blk s kn 1000 (a + 2) [] false 0 most = none ∨ ∀ p, blk s kn 1000 (a + 2) [] false 0 most = some p → ¬ (p.2.1 < s.length ∧ (s.getD p.2.1 0).toNat = 59)) → progL s = none := fun hf => by
      rw [progL, if_pos hs200, ← hR]
      split
      · rename_i hl
        rcases hf with hf | hf | hf
        · exact absurd hl.2.2 hf
        · rw [hf]
        · cases hbl : blk s kn 1000 (a + 2) [] false 0 most with
          | none => rfl
          | some p => simp only; rw [if_neg (hf p hbl)]
      · rfl
    cases hlk : List.lookup (s.getD a 0) kn with
    | some u =>
      have hpn := hfail (.inl (by rw [hlk]; simp))
      cases hbl : blk s kn 1000 (a + 2) [] false 0 most with
      | none =>
        rw [hbl] at hR6
        rcases hR6 with ⟨o, rfl⟩ | ⟨o, rfl, hlt6, hn1, hn2⟩
        · simp only [↓vsd, vsn, gW, qd, qv, ev, pick, argE, zipE, ne_eq, eq_self, forall_const, implies_true, if_true, if_false, reduceIte, reduceCtorEq, Nat.reduceEqDiff, Nat.reduceAdd, Nat.reduceLT, ↓us_ireadProgram, r_ireadProgram, hb6.facts, fPg, hmf, hlk, hr1]
          exact ⟨hx6, b, _, _, a6, most6, _, _, rfl, hb6, by rw [hpn]⟩
        · simp only [↓vsd, vsn, gW, qd, qv, ev, pick, argE, zipE, ne_eq, eq_self, forall_const, implies_true, if_true, if_false, reduceIte, reduceCtorEq, Nat.reduceEqDiff, Nat.reduceAdd, Nat.reduceLT, ↓us_ireadProgram, r_ireadProgram, hb6.facts, fPg, hmf, hlk, hr1]
          exact ⟨hx6, b, _, _, a6, most6, _, _, rfl, hb6, by rw [hpn]⟩
      | some p =>
        obtain ⟨part, a7, most7⟩ := p
        rw [hbl] at hR6
        obtain ⟨rfl, rfl, rfl, hol⟩ := hR6
        simp only [↓vsd, vsn, gW, qd, qv, ev, pick, argE, zipE, ne_eq, eq_self, forall_const, implies_true, if_true, if_false, reduceIte, reduceCtorEq, Nat.reduceEqDiff, Nat.reduceAdd, Nat.reduceLT, ↓us_ireadProgram, r_ireadProgram, hb6.facts, fPg, hmf, hlk, hr1]
        exact ⟨hx6, b, _, _, a6, most6, _, _, rfl, hb6, by rw [hpn]⟩
    | none =>
      cases hbl : blk s kn 1000 (a + 2) [] false 0 most with
      | none =>
        have hpn := hfail (.inr (.inl hbl))
        rw [hbl] at hR6
        rcases hR6 with ⟨o, rfl⟩ | ⟨o, rfl, hlt6, hn1, hn2⟩
        · simp only [↓vsd, vsn, gW, qd, qv, ev, pick, argE, zipE, ne_eq, eq_self, forall_const, implies_true, if_true, if_false, reduceIte, reduceCtorEq, Nat.reduceEqDiff, Nat.reduceAdd, Nat.reduceLT, ↓us_ireadProgram, r_ireadProgram, hb6.facts, fPg, hmf, hlk, hr2]
          exact ⟨hx6, b, _, _, a6, most6, _, _, rfl, hb6, by rw [hpn]⟩
        · simp only [↓vsd, vsn, gW, qd, qv, ev, pick, argE, zipE, ne_eq, eq_self, forall_const, implies_true, if_true, if_false, reduceIte, reduceCtorEq, Nat.reduceEqDiff, Nat.reduceAdd, Nat.reduceLT, ↓us_ireadProgram, r_ireadProgram, hb6.facts, fPg, hmf, hlk, hr2]
          refine m_call (iprogram_next_ok s a6 _ _ _ _ b 59 _ hb6) ?_
          rintro _ w7 hx7 rfl
          have hno : decide (a6 < s.length ∧ (s.getD a6 0).toNat = (59 : UInt8).toNat) = false := decide_eq_false fun h => hn2 h.2
          simp only [↓vsd, vsn, gW, qd, qv, ev, pick, argE, zipE, ne_eq, eq_self, forall_const, implies_true, if_true, if_false, reduceIte, reduceCtorEq, Nat.reduceEqDiff, Nat.reduceAdd, Nat.reduceLT, ↓us_ireadProgram, r_ireadProgram, hno]
          exact ⟨hx6.trans hx7, b, _, _, a6, most6, _, _, rfl, hb6.ext hx7, by rw [hpn]⟩
      | some p =>
        obtain ⟨part, a7, most7⟩ := p
        rw [hbl] at hR6
        obtain ⟨rfl, rfl, rfl, hol⟩ := hR6
        simp only [↓vsd, vsn, gW, qd, qv, ev, pick, argE, zipE, ne_eq, eq_self, forall_const, implies_true, if_true, if_false, reduceIte, reduceCtorEq, Nat.reduceEqDiff, Nat.reduceAdd, Nat.reduceLT, ↓us_ireadProgram, r_ireadProgram, hb6.facts, fPg, hmf, hlk, hr2]
        refine m_call (iprogram_next_ok s a6 _ _ _ _ b 59 _ hb6) ?_
        rintro _ w7 hx7 rfl
        have hb7 := hb6.ext hx7
        have hx17 := hx6.trans hx7
        have hm7 : mapAt w7 (.map (some km)) = some (knE kn) := mapAt_grown hm6 (grown_ext none hx7) (by simp)
        have ho7 := ho6.ext hx7
        by_cases h59 : a6 < s.length ∧ (s.getD a6 0).toNat = (59 : UInt8).toNat
        · have hyes := decide_eq_true h59
          have h59' : (s.getD a6 0).toNat = 59 := h59.2
          simp only [↓vsd, vsn, gW, qd, qv, ev, pick, argE, zipE, ne_eq, eq_self, forall_const, implies_true, if_true, if_false, reduceIte, reduceCtorEq, Nat.reduceEqDiff, Nat.reduceAdd, Nat.reduceLT, ↓us_ireadProgram, r_ireadProgram, hyes, hb7.facts, fPg]
          refine ⟨inR_i64 (by omega), m_st hb7 rfl (by decide : 1 + 1 ≤ 6) (fI_one _) ?_⟩
          rintro w8 hb8' hu8
          have hb8 : Blk w8 b (fP s (a6 + 1 : Nat) (.map (some km)) nm 0 most6) 44 := hb8'
          have hx8 : Ext w w8 := hu8.below hx17 hbw
          have hm8 : mapAt w8 (.map (some km)) = some (knE kn) := mapAt_grown hm7 hu8.grown (by simpa using hkb)
          have ho8 := ho7.keep hu8.grown (fun c hc => by have := Option.some.inj hc; omega)
          simp only [↓vsd, vsn, gW, qd, qv, ev, pick, argE, zipE, ne_eq, eq_self, forall_const, implies_true, if_true, if_false, reduceIte, reduceCtorEq, Nat.reduceEqDiff, Nat.reduceAdd, Nat.reduceLT, ↓us_ireadProgram, r_ireadProgram, hb8.facts, fPg]
          refine m_mup hm8 (by rw [lk_kn]; rfl) ?_
          rintro w9 hm9 hu9
          rw [put_kn part hlk] at hm9
          have hb9 := hu9.blk hb8 (by omega)
          have hx9 : Ext w w9 := hu9.below hx8 (by omega)
          have ho9 := ho8.keep hu9.grown (fun c hc => by have := Option.some.inj hc; omega)
          simp only [↓vsd, vsn, gW, qd, qv, ev, pick, argE, zipE, ne_eq, eq_self, forall_const, implies_true, if_true, if_false, reduceIte, reduceCtorEq, Nat.reduceEqDiff, Nat.reduceAdd, Nat.reduceLT, ↓us_ireadProgram, r_ireadProgram, hb9.facts, fPg]
          refine m_bsl (one_el rfl) ?_
          rintro b10 w10 hb10 hblk10 hx10 hs10
          have hx10 := ud hx10
          simp only [↓vsd, vsn, gW, qd, qv, ev, pick, argE, zipE, ne_eq, eq_self, forall_const, implies_true, if_true, if_false, reduceIte, reduceCtorEq, Nat.reduceEqDiff, Nat.reduceAdd, Nat.reduceLT, ↓us_ireadProgram, r_ireadProgram]
          refine m_b2s (l := [s.getD a 0]) (Sq.one (f := fU) fU_len hblk10 rfl) ?_
          simp only [↓vsd, vsn, gW, qd, qv, ev, pick, argE, zipE, ne_eq, eq_self, forall_const, implies_true, if_true, if_false, reduceIte, reduceCtorEq, Nat.reduceEqDiff, Nat.reduceAdd, Nat.reduceLT, ↓us_ireadProgram, r_ireadProgram]
          refine m_bsl (one_el rfl) ?_
          rintro b11 w11 hb11 hblk11 hx11 hs11
          simp only [↓vsd, vsn, gW, qd, qv, ev, pick, argE, zipE, ne_eq, eq_self, forall_const, implies_true, if_true, if_false, reduceIte, reduceCtorEq, Nat.reduceEqDiff, Nat.reduceAdd, Nat.reduceLT, ↓us_ireadProgram, r_ireadProgram]
          have hx911 := hx10.trans hx11
          have hnl : (namesL kn).length ≤ 200 := by simp [namesL]; omega
          have hbs : b + 1 ≤ w11.heap.size := by have := hb9.lt; have := hx911.size; omega
          refine m_app (ho9.ext hx911) (Sq.one fS_len hblk11 rfl) fS_one (by decide) (by simp only [List.length_singleton]; omega) (by decide) hbs ?_
          rintro nm12 w12 ho12 hg12
          have hbd := (ho9.ext hx911).bound
          have hx12 : Ext w w12 := Below.trans (hx9.trans hx911) ⟨hg12.os, hg12.tape, hg12.output, hg12.size, fun i hi => hg12.block i (by have := (hx9.trans hx911).size; omega) (fun e => by have := (hbd i e.symm).1; omega)⟩
          have hb12 := (hb9.ext hx911).same (hg12.block b (hb9.ext hx911).lt (fun e => by have := (hbd b e.symm).1; omega))
          have hm12 := mapAt_grown (mapAt_grown hm9 (grown_ext none hx911) (by simp)) hg12 (fun e => by have := (hbd km e.symm).1; omega)
          simp only [↓vsd, vsn, gW, qd, qv, ev, pick, argE, zipE, ne_eq, eq_self, forall_const, implies_true, if_true, if_false, reduceIte, reduceCtorEq, Nat.reduceEqDiff, Nat.reduceAdd, Nat.reduceLT, ↓us_ireadProgram, r_ireadProgram]
          have hnc : nm12.cells = #[nm12] := of_eq_true ho12.sq.oneC
          have hno : nm12.oneCell' = true := by rcases ho12.sq.2.2 with ⟨rfl, _⟩ | ⟨x, c, rfl, _⟩ <;> rfl
          refine m_st hb12 (by rw [hnc]; rfl) (by decide : 3 + 1 ≤ 6) (by rw [hnc]; intro u hu; simp only [List.mem_singleton] at hu; subst hu; exact hno) ?_
          rintro w13 hb13' hu13
          rw [hnc] at hb13'
          have hb13 : Blk w13 b (fP s (a6 + 1 : Nat) (.map (some km)) nm12 0 most6) 44 := hb13'
          have hx13 : Ext w w13 := hu13.below hx12 hbw
          have hm13 := mapAt_grown hm12 hu13.grown (by simpa using hkb)
          have ho13 := ho12.keep hu13.grown (fun c hc => by have := Option.some.inj hc; omega)
          simp only [↓vsd, vsn, gW, qd, qv, ev, pick, argE, zipE, ne_eq, eq_self, forall_const, implies_true, if_true, if_false, reduceIte, reduceCtorEq, Nat.reduceEqDiff, Nat.reduceAdd, Nat.reduceLT, ↓us_ireadProgram, r_ireadProgram]
          have hl3 : 65 ≤ (s.getD a 0).toNat ∧ (s.getD a 0).toNat ≤ 90 ∧ List.lookup (s.getD a 0) kn = none := ⟨hletter.1, hletter.2, hlk⟩
          rw [if_pos hl3, hbl] at hR
          simp only at hR
          rw [if_pos ⟨h59.1, h59'⟩] at hR
          refine ⟨g, by omega, a6 + 1, most6, nm12, kn ++ [(s.getD a 0, part)], by omega, by omega, hmm6, by simp; omega, fun p hp => ?_, hb13, hm13, ho13.to (by rw [namesL, namesL, List.map_append]; rfl), hx13, hR⟩
          rcases List.mem_append.1 hp with hp | hp
          · exact hkn p hp
          · rw [List.mem_singleton.1 hp]; exact hol
        · have hno := decide_eq_false h59
          have hpn := hfail (.inr (.inr fun p hp hh => by
            rw [hbl] at hp
            obtain rfl := Option.some.inj hp
            exact h59 ⟨hh.1, hh.2⟩))
          simp only [↓vsd, vsn, gW, qd, qv, ev, pick, argE, zipE, ne_eq, eq_self, forall_const, implies_true, if_true, if_false, reduceIte, reduceCtorEq, Nat.reduceEqDiff, Nat.reduceAdd, Nat.reduceLT, ↓us_ireadProgram, r_ireadProgram, hno]
          exact ⟨hx17, b, _, _, a6, most6, _, _, rfl, hb7, by rw [hpn]⟩
  · have hdF := decide_eq_false hdef
    have hcall := iprogram_block_ok 1000 s kn km nm 0 most a b w4 (by omega) ha hs200 (by omega) hmo hkn hkb hb4 hm4
    simp only [↓vsd, vsn, gW, qd, qv, ev, pick, argE, zipE, ne_eq, eq_self, forall_const, implies_true, if_true, if_false, reduceIte, reduceCtorEq, Nat.reduceEqDiff, Nat.reduceAdd, Nat.reduceLT, ↓us_ireadProgram, r_ireadProgram, hdF]
    refine m_callw (.inl rfl) hcall ?_
    rintro r w5 ⟨a5, most5, hb5, hg5, ha5, hal5, hmm5, hR5⟩
    have hx5 : Ext w w5 := Below.trans hx14 ⟨hg5.os, hg5.tape, hg5.output, hg5.size, fun i hi => hg5.block i (by have := hx14.size; omega) (fun e => by have := Option.some.inj e; omega)⟩
    have ho5 := ho4.keep hg5 (fun c hc => by have := Option.some.inj hc; omega)
    cases hbl : blk s kn 1000 a [] false 0 most with
    | none =>
      rw [hbl] at hR5
      have hpn : progL s = none := by
        rw [progL, if_pos hs200, ← hR]
        by_cases hd1 : a + 1 < s.length ∧ (s.getD (a + 1) 0).toNat = 61
        · rw [if_pos hd1, if_neg (fun h => hdef ⟨hd1.1, ⟨h.1, h.2.1⟩, hd1.2⟩)]
        · rw [if_neg hd1, hbl]
      rcases hR5 with ⟨o, rfl⟩ | ⟨o, rfl, hlt5, hn1, hn2⟩
      · simp only [↓vsd, vsn, gW, qd, qv, ev, pick, argE, zipE, ne_eq, eq_self, forall_const, implies_true, if_true, if_false, reduceIte, reduceCtorEq, Nat.reduceEqDiff, Nat.reduceAdd, Nat.reduceLT, ↓us_ireadProgram, r_ireadProgram, hb5.facts, fPg]
        exact ⟨hx5, b, _, _, a5, most5, _, _, rfl, hb5, by rw [hpn]⟩
      · simp only [↓vsd, vsn, gW, qd, qv, ev, pick, argE, zipE, ne_eq, eq_self, forall_const, implies_true, if_true, if_false, reduceIte, reduceCtorEq, Nat.reduceEqDiff, Nat.reduceAdd, Nat.reduceLT, ↓us_ireadProgram, r_ireadProgram, hb5.facts, fPg]
        refine ⟨hx5, b, _, _, a5, most5, _, _, rfl, hb5, ?_⟩
        rw [hpn]
        exact decide_eq_false (by omega)
    | some p =>
      obtain ⟨out, a6, most6⟩ := p
      rw [hbl] at hR5
      obtain ⟨rfl, rfl, rfl, hol⟩ := hR5
      simp only [↓vsd, vsn, gW, qd, qv, ev, pick, argE, zipE, ne_eq, eq_self, forall_const, implies_true, if_true, if_false, reduceIte, reduceCtorEq, Nat.reduceEqDiff, Nat.reduceAdd, Nat.reduceLT, ↓us_ireadProgram, r_ireadProgram, hb5.facts, fPg]
      refine ⟨hx5, b, _, _, a5, most5, _, _, rfl, hb5, ?_⟩
      have hnd : ¬ (a + 1 < s.length ∧ (s.getD (a + 1) 0).toNat = 61) := fun hd1 => by
        have := blk_eq (kn := kn) (f := 1000) (dep := 0) (most := most) hd1.1 hd1.2 (fun hl => hdef ⟨hd1.1, hl, hd1.2⟩)
        rw [hbl] at this
        cases this
      rw [progL, if_pos hs200, ← hR, if_neg hnd, hbl]
      simp only
      by_cases hae : a5 = s.length
      · rw [if_pos hae]
        exact ⟨decide_eq_true (by omega), rfl, rfl, hmm5, hol, by omega, own_mono ho5 (by omega)⟩
      · rw [if_neg hae]
        exact decide_eq_false (by omega)
theorem ext3 (a b c : Value) : extV 0 (.tuple ⟨[a, b, c]⟩) = a ∧ extV 1 (.tuple ⟨[a, b, c]⟩) = b ∧ extV 2 (.tuple ⟨[a, b, c]⟩) = c ∧ extD 0 (.tuple ⟨[a, b, c]⟩) = True ∧ extD 1 (.tuple ⟨[a, b, c]⟩) = True ∧ extD 2 (.tuple ⟨[a, b, c]⟩) = True :=
  ⟨rfl, rfl, rfl, eq_true (by simp [extD]), eq_true (by simp [extD]), eq_true (by simp [extD])⟩
theorem iIsWords_ok (s : List UInt8) (hs : s.length ≤ 1048576) (w : World) : Fn 15 [S s] w (fun r _ => r = .bool (progL s).isSome) := by
  (refine callsV_of mix Tryd.func15 c_iIsWords ?_; simp only [↓vsd, vsn, gW, qd, qv, ev, pick, argE, zipE, ne_eq, eq_self, forall_const, implies_true, if_true, if_false, reduceIte, reduceCtorEq, Nat.reduceEqDiff, Nat.reduceAdd, Nat.reduceLT, ↓us_iIsWords, r_iIsWords])
  refine m_call (ireadProgram_ok s hs _) ?_
  rintro _ w1 hx1 ⟨b, out, ok, a, most, mp, nm, rfl, hb, hR⟩
  simp only [↓vsd, vsn, gW, qd, qv, ev, pick, argE, zipE, ne_eq, eq_self, forall_const, implies_true, if_true, if_false, reduceIte, reduceCtorEq, Nat.reduceEqDiff, Nat.reduceAdd, Nat.reduceLT, ↓us_iIsWords, r_iIsWords, ext3]
  refine ⟨hx1, ?_⟩
  cases hp : progL s with
  | none => rw [hp] at hR; rw [hR]; rfl
  | some p => obtain ⟨o, kn, m⟩ := p; rw [hp] at hR; rw [hR.1]; rfl
theorem iDepthOf_ok (s : List UInt8) (hs : s.length ≤ 1048576) (w : World) : Fn 9 [S s] w (fun r _ => r = match progL s with | none => .tuple ⟨[.int .i64 0, .bool false]⟩ | some p => .tuple ⟨[.int .i64 (p.2.2 : Nat), .bool true]⟩) := by
  (refine callsV_of mix Tryd.func9 c_iDepthOf ?_; simp only [↓vsd, vsn, gW, qd, qv, ev, pick, argE, zipE, ne_eq, eq_self, forall_const, implies_true, if_true, if_false, reduceIte, reduceCtorEq, Nat.reduceEqDiff, Nat.reduceAdd, Nat.reduceLT, ↓us_iDepthOf, r_iDepthOf])
  refine m_call (ireadProgram_ok s hs _) ?_
  rintro _ w1 hx1 ⟨b, out, ok, a, most, mp, nm, rfl, hb, hR⟩
  cases hp : progL s with
  | none =>
    rw [hp] at hR
    subst hR
    simp only [↓vsd, vsn, gW, qd, qv, ev, pick, argE, zipE, ne_eq, eq_self, forall_const, implies_true, if_true, if_false, reduceIte, reduceCtorEq, Nat.reduceEqDiff, Nat.reduceAdd, Nat.reduceLT, ↓us_iDepthOf, r_iDepthOf, ext3]
    exact hx1
  | some p =>
    obtain ⟨o, kn, m⟩ := p
    rw [hp] at hR
    obtain ⟨rfl, rfl, rfl, _⟩ := hR
    simp only [↓vsd, vsn, gW, qd, qv, ev, pick, argE, zipE, ne_eq, eq_self, forall_const, implies_true, if_true, if_false, reduceIte, reduceCtorEq, Nat.reduceEqDiff, Nat.reduceAdd, Nat.reduceLT, ↓us_iDepthOf, r_iDepthOf, ext3, hb.facts, fPg]
    exact hx1
theorem iCompileWords_ok (s : List UInt8) (hs : s.length ≤ 1048576) (w : World) : Fn 5 [S s] w (fun r _ => r = match progL s with | none => .tuple ⟨[S [], .bool false]⟩ | some p => if IsTouch p.1 then .tuple ⟨[S p.1, .bool true]⟩ else .tuple ⟨[S [], .bool false]⟩) := by
  (refine callsV_of mix Tryd.func5 c_iCompileWords ?_; simp only [↓vsd, vsn, gW, qd, qv, ev, pick, argE, zipE, ne_eq, eq_self, forall_const, implies_true, if_true, if_false, reduceIte, reduceCtorEq, Nat.reduceEqDiff, Nat.reduceAdd, Nat.reduceLT, ↓us_iCompileWords, r_iCompileWords])
  refine m_call (ireadProgram_ok s hs _) ?_
  rintro _ w1 hx1 ⟨b, out, ok, a, most, mp, nm, rfl, hb, hR⟩
  cases hp : progL s with
  | none =>
    rw [hp] at hR
    subst hR
    simp only [↓vsd, vsn, gW, qd, qv, ev, pick, argE, zipE, ne_eq, eq_self, forall_const, implies_true, if_true, if_false, reduceIte, reduceCtorEq, Nat.reduceEqDiff, Nat.reduceAdd, Nat.reduceLT, ↓us_iCompileWords, r_iCompileWords, ext3]
    exact hx1
  | some p =>
    obtain ⟨o, kn, m⟩ := p
    rw [hp] at hR
    obtain ⟨rfl, rfl, rfl, hm, hol, _⟩ := hR
    simp only [↓vsd, vsn, gW, qd, qv, ev, pick, argE, zipE, ne_eq, eq_self, forall_const, implies_true, if_true, if_false, reduceIte, reduceCtorEq, Nat.reduceEqDiff, Nat.reduceAdd, Nat.reduceLT, ↓us_iCompileWords, r_iCompileWords, ext3]
    refine m_call (iGoodTouch_ok out (by omega) _) ?_
    rintro _ w2 hx2 rfl
    by_cases ht : IsTouch out
    · simp only [↓vsd, vsn, gW, qd, qv, ev, pick, argE, zipE, ne_eq, eq_self, forall_const, implies_true, if_true, if_false, reduceIte, reduceCtorEq, Nat.reduceEqDiff, Nat.reduceAdd, Nat.reduceLT, ↓us_iCompileWords, r_iCompileWords, ext3, ht]
      exact hx1.trans hx2
    · simp only [↓vsd, vsn, gW, qd, qv, ev, pick, argE, zipE, ne_eq, eq_self, forall_const, implies_true, if_true, if_false, reduceIte, reduceCtorEq, Nat.reduceEqDiff, Nat.reduceAdd, Nat.reduceLT, ↓us_iCompileWords, r_iCompileWords, ext3, ht]
      exact hx1.trans hx2
theorem iNamesIn_ok (s : List UInt8) (hs : s.length ≤ 1048576) (w : World) : Fn 7 [S s] w (fun r w' => ∃ x, r = .tuple ⟨[x, .bool (progL s).isSome]⟩ ∧ Own fS 1 9 w.heap.size w' x (match progL s with | none => [] | some p => namesL p.2.1) ∧ ∀ p, progL s = some p → p.2.1.length ≤ 1000) := by
  (refine callsV_of mix Tryd.func7 c_iNamesIn ?_; simp only [↓vsd, vsn, gW, qd, qv, ev, pick, argE, zipE, ne_eq, eq_self, forall_const, implies_true, if_true, if_false, reduceIte, reduceCtorEq, Nat.reduceEqDiff, Nat.reduceAdd, Nat.reduceLT, ↓us_iNamesIn, r_iNamesIn])
  refine m_call (ireadProgram_ok s hs _) ?_
  rintro _ w1 hx1 ⟨b, out, ok, a, most, mp, nm, rfl, hb, hR⟩
  cases hp : progL s with
  | none =>
    rw [hp] at hR
    subst hR
    simp only [↓vsd, vsn, gW, qd, qv, ev, pick, argE, zipE, ne_eq, eq_self, forall_const, implies_true, if_true, if_false, reduceIte, reduceCtorEq, Nat.reduceEqDiff, Nat.reduceAdd, Nat.reduceLT, ↓us_iNamesIn, r_iNamesIn, ext3]
    refine ⟨hx1, _, rfl, ?_⟩
    first | exact Own.nil fS_len | exact ⟨Own.nil fS_len, fun p h => by cases h⟩
  | some p =>
    obtain ⟨o, kn, m⟩ := p
    rw [hp] at hR
    obtain ⟨rfl, rfl, rfl, _, _, hkl, ho⟩ := hR
    simp only [↓vsd, vsn, gW, qd, qv, ev, pick, argE, zipE, ne_eq, eq_self, forall_const, implies_true, if_true, if_false, reduceIte, reduceCtorEq, Nat.reduceEqDiff, Nat.reduceAdd, Nat.reduceLT, ↓us_iNamesIn, r_iNamesIn, ext3, hb.facts, fPg]
    exact ⟨hx1, _, rfl, ho, fun p h => by cases h; exact hkl⟩
end Go.Proofs.YtnbnofmnbopknaaDoor
