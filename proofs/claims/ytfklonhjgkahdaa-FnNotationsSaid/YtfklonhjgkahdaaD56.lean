/-
  Draws of changes and of lists of changes.
  Conditions: none.
-/
import Derived.Test.YtfklonhjgkahdaaA99
import Derived.Test.YtfklonhjgkahdaaD14
set_option linter.unusedSimpArgs false
set_option linter.unusedVariables false
set_option linter.defProp false
namespace Go.Proofs.Ytfklonhjgkahdaa
open Go Go.RowKit
section
variable (P : Program) (k : KT) (e : Env) (w : World)
abbrev b14_1 : X := (.seq (.reg [2, 3] (.c (.q 8 [] (.mv (.t 4))) (.c (.e (some 9) [] (.call true 41 [(.t 8)])) (.c (.q 10 [] (.mv (.t 4))) (.c (.e (some 11) [] (.call true 39 [(.t 10), (.c (.int .i64 20))])) (.c (.q 12 [] (.bin .quo (.t 11) (.c (.int .i64 19)))) (.c (.q 13 [] (.bin .mul (.t 12) (.c (.int .i64 6)))) (.c (.q 14 [] (.bin .sub (.t 9) (.t 13))) (.c (.q 15 [] (.mv (.t 4))) (.c (.e (some 16) [] (.bsl 9 1 [(.s [45]), (.s [120]), (.s [49]), (.s [52]), (.s [49, 52]), (.s [51]), (.s [51, 54]), (.s [50]), (.s []), (.s [51, 52]), (.s [49, 50]), (.s [48]), (.s [53])])) (.c (.e (some 17) [] (.call true 42 [(.t 15), (.t 16)])) (.c (.q 2 [] (.mv (.t 14))) (.c (.q 3 [] (.mv (.t 17))) .nil))))))))))))) .ret)
def t14_1 := b14_1
theorem u14_1 : vcK P t14_1 k e w = vcK P b14_1 k e w := rfl
abbrev b14_2 : X := (.seq (.reg [4] (.c (.q 5 [] (.mv (.t 0))) (.c (.q 6 [] (.bld [(.slice none 0 0), (.int .i64 0), (.int .u64 0)] [(0, 0, (.t 5))])) (.c (.e (some 7) [] (.box 61 (.t 6))) (.c (.q 4 [] (.mv (.t 7))) .nil))))) t14_1)
def t14_2 := b14_2
theorem u14_2 : vcK P t14_2 k e w = vcK P b14_2 k e w := rfl
abbrev b14_0 : X := (.seq (.reg [0] (.c (.q 2 [] (.mv (.c (.int .i64 0)))) (.c (.q 3 [] (.mv (.s []))) .nil))) t14_2)
def x_sDrawTidyChange := b14_0
theorem u14_0 : vcK P x_sDrawTidyChange k e w = vcK P b14_0 k e w := rfl
def r_sDrawTidyChange : List XO := [(.mv (.t 2)), (.mv (.t 3))]
theorem c_sDrawTidyChange : convF Try.prog [38, 39, 41, 42, 49, 54, 55, 57, 58, 59, 79, 81, 84, 87, 139] Try.f14 [([0], []), ([4], []), ([2, 3], [])] = some (x_sDrawTidyChange, r_sDrawTidyChange) := by kernel_rfl
def us_sDrawTidyChange :=  (aI @u14_0 (aI @u14_1 @u14_2))
abbrev b54_1 : X := (.cond (.t 15) (.seq (.reg [4] (.c (.q 16 [] (.fa 2 (.t 5))) (.c (.q 17 [] (.ld (.t 16))) (.c (.q 4 [] (.mv (.t 17))) .nil)))) .ret) .skip)
def t54_1 := b54_1
theorem u54_1 : vcK P t54_1 k e w = vcK P b54_1 k e w := rfl
abbrev b54_2 : X := (.seq (.reg [0, 1, 5, 15] (.c (.q 12 [] (.fa 1 (.t 5))) (.c (.q 13 [] (.ld (.t 12))) (.c (.q 14 [] (.mv (.t 1))) (.c (.q 15 [] (.bin .eql (.t 13) (.t 14))) .nil))))) t54_1)
def t54_2 := b54_2
theorem u54_2 : vcK P t54_2 k e w = vcK P b54_2 k e w := rfl
abbrev b54_3 : X := (.cond (.t 9) (.seq (.reg [0, 1, 5] (.c (.q 10 [] (.mv (.t 0))) (.c (.e (some 11) [] (.call true 84 [(.t 10)])) (.c (.e (some 5) [] (.al 44 [(S []), (.int .i64 0), (.slice none 0 0)])) (.c (.e none [] (.st 3 (.t 5) (.t 11))) .nil))))) t54_2) .skip)
def t54_3 := b54_3
theorem u54_3 : vcK P t54_3 k e w = vcK P b54_3 k e w := rfl
abbrev b54_4 : X := (.cond (.t 22) .skip (.exit 0))
def t54_4 := b54_4
theorem u54_4 : vcK P t54_4 k e w = vcK P b54_4 k e w := rfl
abbrev b54_5 : X := (.reg [0, 1, 6, 7] (.c (.q 23 [] (.mv (.t 7))) (.c (.q 24 [] (.bin .sub (.t 23) (.c (.int .i64 1)))) (.c (.q 7 [] (.mv (.t 24))) .nil))))
def t54_5 := b54_5
theorem u54_5 : vcK P t54_5 k e w = vcK P b54_5 k e w := rfl
abbrev b54_6 : X := (.seq (.blk 1 (.reg [0, 1, 6, 7] (.c (.q 25 [] (.mv (.t 6))) (.c (.q 26 [] (.mv (.t 0))) (.c (.q 27 [] (.mv (.t 1))) (.c (.e (some 28) [] (.call true 81 [(.t 26), (.t 27)])) (.c (.e (some 29) [] (.bsl 9 1 [(.t 28)])) (.c (.e (some 30) [] (.app 24 9 1 16 [(S [])] 24 (.t 25) (.t 29))) (.c (.q 6 [] (.mv (.t 30))) .nil))))))))) t54_5)
def t54_6 := b54_6
theorem u54_6 : vcK P t54_6 k e w = vcK P b54_6 k e w := rfl
abbrev b54_7 : X := (.seq (.seq (.reg [0, 1, 6, 7, 22] (.c (.q 21 [] (.mv (.t 7))) (.c (.q 22 [] (.bin .gtr (.t 21) (.c (.int .i64 0)))) .nil))) t54_4) t54_6)
def t54_7 := b54_7
theorem u54_7 : vcK P t54_7 k e w = vcK P b54_7 k e w := rfl
abbrev b54_8 : X := (.blk 0 (.loop [6, 7] [0, 1] t54_7))
def t54_8 := b54_8
theorem u54_8 : vcK P t54_8 k e w = vcK P b54_8 k e w := rfl
abbrev b54_9 : X := (.cond (.t 32) (.reg [6] (.c (.q 33 [] (.mv (.t 6))) (.c (.e (some 34) [] (.call false 40 [(.t 33)])) (.c (.q 35 [] (.mv (.t 0))) (.c (.q 36 [] (.mv (.t 1))) (.c (.e (some 37) [] (.call true 81 [(.t 35), (.t 36)])) (.c (.e (some 38) [] (.bsl 9 1 [(.t 37)])) (.c (.e (some 39) [] (.call false 40 [(.t 38)])) (.c (.e (some 40) [] (.app 24 9 1 16 [(S [])] 24 (.t 34) (.t 39))) (.c (.q 6 [] (.mv (.t 40))) .nil)))))))))) .skip)
def t54_9 := b54_9
theorem u54_9 : vcK P t54_9 k e w = vcK P b54_9 k e w := rfl
abbrev b54_10 : X := (.seq (.reg [4] (.c (.q 41 [] (.mv (.t 6))) (.c (.q 4 [] (.mv (.t 41))) .nil))) .ret)
def t54_10 := b54_10
theorem u54_10 : vcK P t54_10 k e w = vcK P b54_10 k e w := rfl
abbrev b54_11 : X := (.seq (.seq (.reg [0, 1, 6, 32] (.c (.q 31 [] (.mv (.t 0))) (.c (.e (some 32) [] (.call true 38 [(.t 31), (.c (.int .i64 2))])) .nil))) t54_9) t54_10)
def t54_11 := b54_11
theorem u54_11 : vcK P t54_11 k e w = vcK P b54_11 k e w := rfl
abbrev b54_12 : X := (.seq (.seq (.reg [0, 1, 6, 7] (.c (.q 18 [] (.mv (.t 0))) (.c (.e (some 19) [] (.call true 39 [(.t 18), (.c (.int .i64 6))])) (.c (.q 20 [] (.bin .add (.c (.int .i64 1)) (.t 19))) (.c (.q 7 [] (.mv (.t 20))) .nil))))) t54_8) t54_11)
def t54_12 := b54_12
theorem u54_12 : vcK P t54_12 k e w = vcK P b54_12 k e w := rfl
abbrev b54_13 : X := (.seq (.reg [0, 1, 6] (.c (.q 6 [] (.mv (.c (.slice none 0 0)))) .nil)) t54_12)
def t54_13 := b54_13
theorem u54_13 : vcK P t54_13 k e w = vcK P b54_13 k e w := rfl
abbrev b54_14 : X := (.seq (.seq (.reg [0, 1, 9] (.c (.q 8 [] (.mv (.t 0))) (.c (.e (some 9) [] (.call true 38 [(.t 8), (.c (.int .i64 2))])) .nil))) t54_3) t54_13)
def t54_14 := b54_14
theorem u54_14 : vcK P t54_14 k e w = vcK P b54_14 k e w := rfl
abbrev b54_0 : X := (.seq (.reg [0, 1] (.c (.q 4 [] (.mv (.c (.slice none 0 0)))) .nil)) t54_14)
def x_sl1Cur_changes := b54_0
theorem u54_0 : vcK P x_sl1Cur_changes k e w = vcK P b54_0 k e w := rfl
def r_sl1Cur_changes : List XO := [(.mv (.t 4))]
theorem c_sl1Cur_changes : convF Try.prog [38, 39, 41, 42, 49, 54, 55, 57, 58, 59, 79, 81, 84, 87, 139] Try.f54 [([0, 1], []), ([0, 1, 9], []), ([0, 1, 5], []), ([0, 1, 5, 15], []), ([4], []), ([0, 1, 6], []), ([0, 1, 6, 7], []), ([6, 7], [0, 1]), ([0, 1, 6, 7, 22], []), ([0, 1, 6, 7], []), ([0, 1, 6, 7], []), ([0, 1, 6, 32], []), ([6], []), ([4], [])] = some (x_sl1Cur_changes, r_sl1Cur_changes) := by kernel_rfl
def us_sl1Cur_changes :=  (aI (aI (aI @u54_0 (aI @u54_1 @u54_2)) (aI (aI @u54_3 @u54_4) (aI @u54_5 @u54_6))) (aI (aI (aI @u54_7 @u54_8) (aI @u54_9 @u54_10)) (aI (aI @u54_11 @u54_12) (aI @u54_13 @u54_14))))
abbrev b49_1 : X := (.cond (.t 36) .skip (.exit 1))
def t49_1 := b49_1
theorem u49_1 : vcK P t49_1 k e w = vcK P b49_1 k e w := rfl
abbrev b49_2 : X := (.blk 2 (.reg [0, 4, 5, 6] (.c (.q 37 [] (.mv (.t 5))) (.c (.q 38 [] (.mv (.t 0))) (.c (.q 39 [] (.mv (.t 4))) (.c (.e (some 40) [] (.call true 81 [(.t 38), (.t 39)])) (.c (.e (some 41) [] (.bsl 9 1 [(.t 40)])) (.c (.e (some 42) [] (.app 24 9 1 16 [(S [])] 24 (.t 37) (.t 41))) (.c (.q 5 [] (.mv (.t 42))) .nil)))))))))
def t49_2 := b49_2
theorem u49_2 : vcK P t49_2 k e w = vcK P b49_2 k e w := rfl
abbrev b49_3 : X := (.seq (.seq (.reg [0, 4, 5, 6, 36] (.c (.q 33 [] (.mv (.t 5))) (.c (.q 34 [] (.lens (.t 33))) (.c (.q 35 [] (.mv (.t 6))) (.c (.q 36 [] (.bin .lss (.t 34) (.t 35))) .nil))))) t49_1) t49_2)
def t49_3 := b49_3
theorem u49_3 : vcK P t49_3 k e w = vcK P b49_3 k e w := rfl
abbrev b49_4 : X := (.blk 1 (.loop [5] [0, 4, 6] t49_3))
def t49_4 := b49_4
theorem u49_4 : vcK P t49_4 k e w = vcK P b49_4 k e w := rfl
abbrev b49_5 : X := (.seq (.reg [0, 4, 5, 6] (.c (.q 30 [] (.mv (.t 0))) (.c (.e (some 31) [] (.call true 39 [(.t 30), (.c (.int .i64 2))])) (.c (.q 32 [] (.bin .add (.c (.int .i64 40)) (.t 31))) (.c (.q 6 [] (.mv (.t 32))) .nil))))) t49_4)
def t49_5 := b49_5
theorem u49_5 : vcK P t49_5 k e w = vcK P b49_5 k e w := rfl
abbrev b49_6 : X := (.cond (.t 26) (.seq (.reg [0, 4, 5] (.c (.q 28 [] (.mv (.t 5))) (.c (.e (some 29) [] (.call false 78 [(.t 28)])) (.c (.q 5 [] (.mv (.t 29))) .nil)))) t49_5) .skip)
def t49_6 := b49_6
theorem u49_6 : vcK P t49_6 k e w = vcK P b49_6 k e w := rfl
abbrev b49_7 : X := (.cond (.t 22) (.reg [4, 5] (.c (.q 24 [] (.mv (.t 4))) (.c (.q 25 [] (.bin .add (.t 24) (.c (.int .i64 1)))) (.c (.q 4 [] (.mv (.t 25))) .nil)))) (.seq (.reg [0, 4, 5, 26] (.c (.q 27 [] (.bin .eql (.t 13) (.c (.int .i64 3)))) (.c (.q 26 [] (.mv (.t 27))) .nil))) t49_6))
def t49_7 := b49_7
theorem u49_7 : vcK P t49_7 k e w = vcK P b49_7 k e w := rfl
abbrev b49_8 : X := (.cond (.t 20) (.reg [4, 5] (.c (.q 5 [] (.mv (.c (.slice none 0 0)))) .nil)) (.seq (.reg [0, 4, 5, 13, 22] (.c (.q 23 [] (.bin .eql (.t 13) (.c (.int .i64 2)))) (.c (.q 22 [] (.mv (.t 23))) .nil))) t49_7))
def t49_8 := b49_8
theorem u49_8 : vcK P t49_8 k e w = vcK P b49_8 k e w := rfl
abbrev b49_9 : X := (.cond (.t 14) (.reg [4, 5] (.c (.q 16 [] (.mv (.t 5))) (.c (.e (some 17) [] (.call false 78 [(.t 16)])) (.c (.e (some 18) [] (.bsl 9 1 [(.s [120])])) (.c (.e (some 19) [] (.app 24 9 1 16 [(S [])] 24 (.t 17) (.t 18))) (.c (.q 5 [] (.mv (.t 19))) .nil)))))) (.seq (.reg [0, 4, 5, 13, 20] (.c (.q 21 [] (.bin .eql (.t 13) (.c (.int .i64 1)))) (.c (.q 20 [] (.mv (.t 21))) .nil))) t49_8))
def t49_9 := b49_9
theorem u49_9 : vcK P t49_9 k e w = vcK P b49_9 k e w := rfl
abbrev b49_10 : X := (.blk 0 (.seq (.reg [0, 4, 5, 13, 14] (.c (.q 15 [] (.bin .eql (.t 13) (.c (.int .i64 0)))) (.c (.q 14 [] (.mv (.t 15))) .nil))) t49_9))
def t49_10 := b49_10
theorem u49_10 : vcK P t49_10 k e w = vcK P b49_10 k e w := rfl
abbrev b49_11 : X := (.seq (.reg [2, 3] (.c (.q 43 [] (.mv (.t 4))) (.c (.q 44 [] (.mv (.t 5))) (.c (.q 2 [] (.mv (.t 43))) (.c (.q 3 [] (.mv (.t 44))) .nil))))) .ret)
def t49_11 := b49_11
theorem u49_11 : vcK P t49_11 k e w = vcK P b49_11 k e w := rfl
abbrev b49_12 : X := (.seq (.seq (.reg [0, 4, 5, 13] (.c (.q 12 [] (.mv (.t 0))) (.c (.e (some 13) [] (.call true 39 [(.t 12), (.c (.int .i64 20))])) .nil))) t49_10) t49_11)
def t49_12 := b49_12
theorem u49_12 : vcK P t49_12 k e w = vcK P b49_12 k e w := rfl
abbrev b49_13 : X := (.seq (.reg [0, 4, 5] (.c (.q 9 [] (.mv (.t 0))) (.c (.q 10 [] (.mv (.t 4))) (.c (.e (some 11) [] (.call true 54 [(.t 9), (.t 10)])) (.c (.q 5 [] (.mv (.t 11))) .nil))))) t49_12)
def t49_13 := b49_13
theorem u49_13 : vcK P t49_13 k e w = vcK P b49_13 k e w := rfl
abbrev b49_14 : X := (.seq (.reg [0, 4] (.c (.q 7 [] (.mv (.t 0))) (.c (.e (some 8) [] (.call true 41 [(.t 7)])) (.c (.q 4 [] (.mv (.t 8))) .nil)))) t49_13)
def t49_14 := b49_14
theorem u49_14 : vcK P t49_14 k e w = vcK P b49_14 k e w := rfl
abbrev b49_0 : X := (.seq (.reg [0] (.c (.q 2 [] (.mv (.c (.int .i64 0)))) (.c (.q 3 [] (.mv (.c (.slice none 0 0)))) .nil))) t49_14)
def x_sl1Cur_anyChanges := b49_0
theorem u49_0 : vcK P x_sl1Cur_anyChanges k e w = vcK P b49_0 k e w := rfl
def r_sl1Cur_anyChanges : List XO := [(.mv (.t 2)), (.mv (.t 3))]
theorem c_sl1Cur_anyChanges : convF Try.prog [38, 39, 41, 42, 49, 54, 55, 57, 58, 59, 79, 81, 84, 87, 139] Try.f49 [([0], []), ([0, 4], []), ([0, 4, 5], []), ([0, 4, 5, 13], []), ([0, 4, 5, 13, 14], []), ([4, 5], []), ([0, 4, 5, 13, 20], []), ([4, 5], []), ([0, 4, 5, 13, 22], []), ([4, 5], []), ([0, 4, 5, 26], []), ([0, 4, 5], []), ([0, 4, 5, 6], []), ([5], [0, 4, 6]), ([0, 4, 5, 6, 36], []), ([0, 4, 5, 6], []), ([2, 3], [])] = some (x_sl1Cur_anyChanges, r_sl1Cur_anyChanges) := by kernel_rfl
def us_sl1Cur_anyChanges :=  (aI (aI (aI @u49_0 (aI @u49_1 @u49_2)) (aI (aI @u49_3 @u49_4) (aI @u49_5 @u49_6))) (aI (aI (aI @u49_7 @u49_8) (aI @u49_9 @u49_10)) (aI (aI @u49_11 @u49_12) (aI @u49_13 @u49_14))))
abbrev b21_1 : X := (.seq (.reg [2, 3] (.c (.q 8 [] (.mv (.t 4))) (.c (.e (some 9) [] (.call true 49 [(.t 8)])) (.c (.q 10 [] (.ext 0 (.t 9))) (.c (.q 11 [] (.ext 1 (.t 9))) (.c (.q 2 [] (.mv (.t 10))) (.c (.q 3 [] (.mv (.t 11))) .nil))))))) .ret)
def t21_1 := b21_1
theorem u21_1 : vcK P t21_1 k e w = vcK P b21_1 k e w := rfl
abbrev b21_2 : X := (.seq (.reg [4] (.c (.q 5 [] (.mv (.t 0))) (.c (.q 6 [] (.bld [(.slice none 0 0), (.int .i64 0), (.int .u64 0)] [(0, 0, (.t 5))])) (.c (.e (some 7) [] (.box 61 (.t 6))) (.c (.q 4 [] (.mv (.t 7))) .nil))))) t21_1)
def t21_2 := b21_2
theorem u21_2 : vcK P t21_2 k e w = vcK P b21_2 k e w := rfl
abbrev b21_0 : X := (.seq (.reg [0] (.c (.q 2 [] (.mv (.c (.int .i64 0)))) (.c (.q 3 [] (.mv (.c (.slice none 0 0)))) .nil))) t21_2)
def x_sDrawNotationText := b21_0
theorem u21_0 : vcK P x_sDrawNotationText k e w = vcK P b21_0 k e w := rfl
def r_sDrawNotationText : List XO := [(.mv (.t 2)), (.mv (.t 3))]
theorem c_sDrawNotationText : convF Try.prog [38, 39, 41, 42, 49, 54, 55, 57, 58, 59, 79, 81, 84, 87, 139] Try.f21 [([0], []), ([4], []), ([2, 3], [])] = some (x_sDrawNotationText, r_sDrawNotationText) := by kernel_rfl
def us_sDrawNotationText :=  (aI @u21_0 (aI @u21_1 @u21_2))
abbrev b7_1 : X := (.seq (.reg [2, 3] (.c (.q 4 [] (.mv (.t 0))) (.c (.e (some 5) [] (.call false 21 [(.t 4)])) (.c (.q 6 [] (.ext 0 (.t 5))) (.c (.q 7 [] (.ext 1 (.t 5))) (.c (.q 2 [] (.mv (.t 6))) (.c (.q 3 [] (.mv (.t 7))) .nil))))))) .ret)
def t7_1 := b7_1
theorem u7_1 : vcK P t7_1 k e w = vcK P b7_1 k e w := rfl
abbrev b7_0 : X := (.seq (.reg [0] (.c (.q 2 [] (.mv (.c (.int .i64 0)))) (.c (.q 3 [] (.mv (.c (.slice none 0 0)))) .nil))) t7_1)
def x_sDrawHalvesOf := b7_0
theorem u7_0 : vcK P x_sDrawHalvesOf k e w = vcK P b7_0 k e w := rfl
def r_sDrawHalvesOf : List XO := [(.mv (.t 2)), (.mv (.t 3))]
theorem c_sDrawHalvesOf : convF Try.prog [38, 39, 41, 42, 49, 54, 55, 57, 58, 59, 79, 81, 84, 87, 139] Try.f7 [([0], []), ([2, 3], [])] = some (x_sDrawHalvesOf, r_sDrawHalvesOf) := by kernel_rfl
def us_sDrawHalvesOf :=  (aI @u7_0 @u7_1)
abbrev b12_1 : X := (.cond (.t 15) (.seq (.reg [2] (.c (.q 16 [] (.mv (.t 5))) (.c (.e (some 17) [] (.call true 39 [(.t 16), (.c (.int .i64 22))])) (.c (.q 18 [] (.bin .add (.c (.int .i64 20)) (.t 17))) (.c (.e (some 19) [] (.msl 24 9 1 16 [(S [])] (.t 18) (.t 18))) (.c (.q 2 [] (.mv (.t 19))) .nil)))))) .ret) .skip)
def t12_1 := b12_1
theorem u12_1 : vcK P t12_1 k e w = vcK P b12_1 k e w := rfl
abbrev b12_2 : X := (.seq (.reg [2] (.c (.q 20 [] (.mv (.t 4))) (.c (.q 2 [] (.mv (.t 20))) .nil))) .ret)
def t12_2 := b12_2
theorem u12_2 : vcK P t12_2 k e w = vcK P b12_2 k e w := rfl
abbrev b12_3 : X := (.seq (.seq (.reg [4, 5, 15] (.c (.q 14 [] (.mv (.t 5))) (.c (.e (some 15) [] (.call true 38 [(.t 14), (.c (.int .i64 12))])) .nil))) t12_1) t12_2)
def t12_3 := b12_3
theorem u12_3 : vcK P t12_3 k e w = vcK P b12_3 k e w := rfl
abbrev b12_4 : X := (.seq (.reg [4, 5] (.c (.q 11 [] (.mv (.t 0))) (.c (.q 12 [] (.bld [(.slice none 0 0), (.int .i64 0), (.int .u64 0)] [(0, 0, (.t 11))])) (.c (.e (some 13) [] (.box 61 (.t 12))) (.c (.q 5 [] (.mv (.t 13))) .nil))))) t12_3)
def t12_4 := b12_4
theorem u12_4 : vcK P t12_4 k e w = vcK P b12_4 k e w := rfl
abbrev b12_5 : X := (.seq (.reg [0, 4] (.c (.q 7 [] (.mv (.t 0))) (.c (.e (some 8) [] (.call false 21 [(.t 7)])) (.c (.q 6 [] (.mv (.t 8))) (.c (.q 9 [] (.ext 0 (.t 6))) (.c (.q 10 [] (.ext 1 (.t 6))) (.c (.q 3 [] (.mv (.t 9))) (.c (.q 4 [] (.mv (.t 10))) .nil)))))))) t12_4)
def t12_5 := b12_5
theorem u12_5 : vcK P t12_5 k e w = vcK P b12_5 k e w := rfl
abbrev b12_0 : X := (.seq (.reg [0] (.c (.q 2 [] (.mv (.c (.slice none 0 0)))) .nil)) t12_5)
def x_sDrawMirrorAll := b12_0
theorem u12_0 : vcK P x_sDrawMirrorAll k e w = vcK P b12_0 k e w := rfl
def r_sDrawMirrorAll : List XO := [(.mv (.t 2))]
theorem c_sDrawMirrorAll : convF Try.prog [38, 39, 41, 42, 49, 54, 55, 57, 58, 59, 79, 81, 84, 87, 139] Try.f12 [([0], []), ([0, 4], []), ([4, 5], []), ([4, 5, 15], []), ([2], []), ([2], [])] = some (x_sDrawMirrorAll, r_sDrawMirrorAll) := by kernel_rfl
def us_sDrawMirrorAll :=  (aI (aI @u12_0 (aI @u12_1 @u12_2)) (aI @u12_3 (aI @u12_4 @u12_5)))
end

theorem sDrawTidyChange_ok (v : Value) (code : List UInt8) (hl : code.length ≤ 1048576) (w : World) (h : Sq fU 1 w v code) : Fn 14 [v] w (fun r _ => ∃ (n : Int) (s : Bs), r = .tuple ⟨[.int .i64 n, S s]⟩ ∧ s.length ≤ 2) := by
  (refine callsV_of mix Try.func14 c_sDrawTidyChange ?_; simp only [↓vsd, vsn, gW, qd, qv, ev, pick, argE, zipE, ne_eq, eq_self, forall_const, implies_true, if_true, if_false, reduceIte, reduceCtorEq, Nat.reduceEqDiff, Nat.reduceAdd, Nat.reduceLT, ↓us_sDrawTidyChange, r_sDrawTidyChange])
  simp only [↓vsd, vsn, gW, qd, qv, ev, pick, argE, zipE, ne_eq, eq_self, forall_const, implies_true, if_true, if_false, reduceIte, reduceCtorEq, Nat.reduceEqDiff, Nat.reduceAdd, Nat.reduceLT, ↓us_sDrawTidyChange, r_sDrawTidyChange, h.facts]
  refine m_al ?_
  rintro b w1 hb hblk hx1 hs1
  have hc := Cur.new h hl hb hblk hx1
  have hlt := hc.lt
  simp only [↓vsd, vsn, gW, qd, qv, ev, pick, argE, zipE, ne_eq, eq_self, forall_const, implies_true, if_true, if_false, reduceIte, reduceCtorEq, Nat.reduceEqDiff, Nat.reduceAdd, Nat.reduceLT, ↓us_sDrawTidyChange, r_sDrawTidyChange]
  refine m_callw (by first | exact .inl rfl | exact .inr rfl) (sl1Cur_stage_ok w b _ w1 (by omega) hc) ?_
  rintro _ w2 ⟨hc2, hg2, m, rfl, hm3, hm8⟩
  simp only [↓vsd, vsn, gW, qd, qv, ev, pick, argE, zipE, ne_eq, eq_self, forall_const, implies_true, if_true, if_false, reduceIte, reduceCtorEq, Nat.reduceEqDiff, Nat.reduceAdd, Nat.reduceLT, ↓us_sDrawTidyChange, r_sDrawTidyChange]
  refine m_callw (by first | exact .inl rfl | exact .inr rfl) (sl1Cur_pick_ok w b _ 20 (by omega) _ (by omega) hc2) ?_
  rintro _ w3 ⟨hc3, hg3, p, rfl, hp⟩
  simp only [↓vsd, vsn, gW, qd, qv, ev, pick, argE, zipE, ne_eq, eq_self, forall_const, implies_true, if_true, if_false, reduceIte, reduceCtorEq, Nat.reduceEqDiff, Nat.reduceAdd, Nat.reduceLT, ↓us_sDrawTidyChange, r_sDrawTidyChange]
  have hp20 : p < 20 := by omega
  have htd : (p : Int).tdiv 19 = ((p / 19 : Nat) : Int) := by rw [Int.tdiv_eq_ediv_of_nonneg (by omega)]; omega
  rw [htd]
  refine ⟨⟨by decide, inR_i64 (by omega)⟩, inR_i64 (by omega), inR_i64 (by omega), ?_⟩
  refine m_bsl (fun p hp => by simp only [List.mem_cons, List.not_mem_nil, or_false] at hp; rcases hp with rfl | rfl | rfl | rfl | rfl | rfl | rfl | rfl | rfl | rfl | rfl | rfl | rfl <;> rfl) ?_
  rintro b4 w4 hb4 hblk4 hx4 hs4
  have hc4 := hc3.ext hx4
  have hlt3 := hc3.lt
  simp only [↓vsd, vsn, gW, qd, qv, ev, pick, argE, zipE, ne_eq, eq_self, forall_const, implies_true, if_true, if_false, reduceIte, reduceCtorEq, Nat.reduceEqDiff, Nat.reduceAdd, Nat.reduceLT, ↓us_sDrawTidyChange, r_sDrawTidyChange]
  refine m_callw (by first | exact .inl rfl | exact .inr rfl) (sl1Cur_of_ok w b _ _ [[45], [120], [49], [52], [49, 52], [51], [51, 54], [50], [], [51, 52], [49, 50], [48], [53]] w4 (by omega) (by decide) hc4 (Sq.litC _ _ fS_len hblk4 rfl rfl (by omega))) ?_
  rintro _ w5 ⟨hc5, hg5, x, rfl, hx⟩
  simp only [↓vsd, vsn, gW, qd, qv, ev, pick, argE, zipE, ne_eq, eq_self, forall_const, implies_true, if_true, if_false, reduceIte, reduceCtorEq, Nat.reduceEqDiff, Nat.reduceAdd, Nat.reduceLT, ↓us_sDrawTidyChange, r_sDrawTidyChange]
  have hxl : ∀ y ∈ ([[45], [120], [49], [52], [49, 52], [51], [51, 54], [50], [], [51, 52], [49, 50], [48], [53]] : List Bs), y.length ≤ 2 := by decide
  exact ⟨hc5.base, _, x, rfl, hxl x hx⟩
theorem sl1Cur_changes_ok (W : World) (b n : Nat) (m : Nat) (hm : 3 ≤ m ∧ m ≤ 8) (w : World) (hn : n ≤ 600000000) (hc : Cur W b n w) : CurFn 54 [cV b, .int .i64 m] W b n 100 w (fun r w' => ∃ l, Own fS 1 9 w.heap.size w' r l ∧ (1 ≤ l.length ∧ l.length ≤ 40) ∧ ∀ c ∈ l, IsChange m c) := by
  (refine callsV_of mix Try.func54 c_sl1Cur_changes ?_; simp only [↓vsd, vsn, gW, qd, qv, ev, pick, argE, zipE, ne_eq, eq_self, forall_const, implies_true, if_true, if_false, reduceIte, reduceCtorEq, Nat.reduceEqDiff, Nat.reduceAdd, Nat.reduceLT, ↓us_sl1Cur_changes, r_sl1Cur_changes])
  refine m_callw (by first | exact .inl rfl | exact .inr rfl) (sl1Cur_one_ok W b n 2 (by omega) _ (by omega) hc) ?_
  rintro _ w1 ⟨hc1, hg1, z, rfl⟩
  cases z
  · simp only [↓vsd, vsn, gW, qd, qv, ev, pick, argE, zipE, ne_eq, eq_self, forall_const, implies_true, if_true, if_false, reduceIte, reduceCtorEq, Nat.reduceEqDiff, Nat.reduceAdd, Nat.reduceLT, ↓us_sl1Cur_changes, r_sl1Cur_changes]
    have hcz := hc1.mono (m := n + 62) (by omega)
    have hgz := hg1
    refine m_callw (by first | exact .inl rfl | exact .inr rfl) (sl1Cur_pick_ok W b _ 6 (by omega) _ (by omega) hcz) ?_
    rintro _ w4 ⟨hc4, hg4, k0, rfl, hk0⟩
    have hgz4 := gtr95 hgz hg4
    have hk6 : k0 < 6 := by omega
    simp only [↓vsd, vsn, gW, qd, qv, ev, pick, argE, zipE, ne_eq, eq_self, forall_const, implies_true, if_true, if_false, reduceIte, reduceCtorEq, Nat.reduceEqDiff, Nat.reduceAdd, Nat.reduceLT, ↓us_sl1Cur_changes, r_sl1Cur_changes]
    refine ⟨inR_i64 (by omega), ?_⟩
    refine m_loop (fun m' vs w' => ∃ (x : Value) (acc : List Bs), vs = [x, .int .i64 m'] ∧ acc.length + m' = k0 + 1 ∧ Own fS 1 9 w.heap.size w' x acc ∧ (∀ c ∈ acc, IsChange m c) ∧ Cur W b (n + 66 + 2 * acc.length) w' ∧ w.grownBy w' (some b)) (k0 + 1) ⟨_, [], by simp; omega, by simp, Own.nil fS_len, by simp, hc4.mono (by simp), hgz4⟩ ?_
    rintro m' vs w5 ⟨x, acc, rfl, hm', ho5, hch5, hc5, hg5⟩
    have hbw := hc.lt.2
    rcases m' with _ | g
    · have gI : ¬ (0 : Int) < ((0 : Nat) : Int) := by decide
      have gJ : ((0 : Nat) : Int) ≤ 0 := by decide
      simp only [↓vsd, vsn, gW, qd, qv, ev, pick, argE, zipE, ne_eq, eq_self, forall_const, implies_true, if_true, if_false, reduceIte, reduceCtorEq, Nat.reduceEqDiff, Nat.reduceAdd, Nat.reduceLT, ↓us_sl1Cur_changes, r_sl1Cur_changes, gI, gJ]
      refine m_callw (by first | exact .inl rfl | exact .inr rfl) (sl1Cur_one_ok W b _ 2 (by omega) _ (by omega) hc5) ?_
      rintro _ w6 ⟨hc6, hg6, z, rfl⟩
      have ho6 := ho5.keep hg6 (fun c hc => by cases hc; exact hbw)
      have hg06 := gtr95 hg5 hg6
      have hz6 := hg06.size
      cases z
      · simp only [↓vsd, vsn, gW, qd, qv, ev, pick, argE, zipE, ne_eq, eq_self, forall_const, implies_true, if_true, if_false, reduceIte, reduceCtorEq, Nat.reduceEqDiff, Nat.reduceAdd, Nat.reduceLT, ↓us_sl1Cur_changes, r_sl1Cur_changes]
        exact ⟨hc6.mono (by omega), hg06, acc, ho6, ⟨by omega, by omega⟩, hch5⟩
      · simp only [↓vsd, vsn, gW, qd, qv, ev, pick, argE, zipE, ne_eq, eq_self, forall_const, implies_true, if_true, if_false, reduceIte, reduceCtorEq, Nat.reduceEqDiff, Nat.reduceAdd, Nat.reduceLT, ↓us_sl1Cur_changes, r_sl1Cur_changes]
        refine m_call (sl3Mirror_ok x acc (by omega) _ ho6.sq) ?_
        rintro y7 w7 hx7 ho7
        simp only [↓vsd, vsn, gW, qd, qv, ev, pick, argE, zipE, ne_eq, eq_self, forall_const, implies_true, if_true, if_false, reduceIte, reduceCtorEq, Nat.reduceEqDiff, Nat.reduceAdd, Nat.reduceLT, ↓us_sl1Cur_changes, r_sl1Cur_changes]
        refine m_callw (by first | exact .inl rfl | exact .inr rfl) (sl1Cur_change_ok W b _ m hm _ (by omega) (hc6.ext hx7)) ?_
        rintro _ w8 ⟨hc8, hg8, z, rfl, hz⟩
        simp only [↓vsd, vsn, gW, qd, qv, ev, pick, argE, zipE, ne_eq, eq_self, forall_const, implies_true, if_true, if_false, reduceIte, reduceCtorEq, Nat.reduceEqDiff, Nat.reduceAdd, Nat.reduceLT, ↓us_sl1Cur_changes, r_sl1Cur_changes]
        refine m_bsl (one_el rfl) ?_
        rintro b9 w9 hb9e hblk9 hx9 hs9
        simp only [↓vsd, vsn, gW, qd, qv, ev, pick, argE, zipE, ne_eq, eq_self, forall_const, implies_true, if_true, if_false, reduceIte, reduceCtorEq, Nat.reduceEqDiff, Nat.reduceAdd, Nat.reduceLT, ↓us_sl1Cur_changes, r_sl1Cur_changes]
        refine m_call (sl3Mirror_ok _ [z] (by simp) _ (Sq.one fS_len hblk9 rfl)) ?_
        rintro u10 w10 hx10 ho10
        simp only [↓vsd, vsn, gW, qd, qv, ev, pick, argE, zipE, ne_eq, eq_self, forall_const, implies_true, if_true, if_false, reduceIte, reduceCtorEq, Nat.reduceEqDiff, Nat.reduceAdd, Nat.reduceLT, ↓us_sl1Cur_changes, r_sl1Cur_changes]
        have hz7 := hx7.size
        have hz8 := hg8.size
        have hz9 := hx9.size
        have hz10 := hx10.size
        have ho7b := (((ho7.mono hz6).keep hg8 (fun c hc => by cases hc; exact hbw)).ext hx9).ext hx10
        have hml : (mirL [z]).length = 1 := by rw [mirL_len]; rfl
        refine m_app ho7b ho10.sq fS_one (by decide) (by rw [hml, mirL_len]; omega) (by decide) (by omega) ?_
        rintro x11 w11 ho11 hg11
        have hob : ∀ c, y7.ownBlock = some c → w.heap.size ≤ c := fun c hc => (ho7b.bound c hc).1
        have hc11 := ((hc8.ext hx9).ext hx10).keep hg11 (fun c hc => by have := hob c hc; omega)
        have hg011 := gapp95 (gtr95 (gtr95 (gtr95 (gtr95 hg06 (grown_ext _ hx7)) hg8) (grown_ext _ hx9)) (grown_ext _ hx10)) hg11 hob
        simp only [↓vsd, vsn, gW, qd, qv, ev, pick, argE, zipE, ne_eq, eq_self, forall_const, implies_true, if_true, if_false, reduceIte, reduceCtorEq, Nat.reduceEqDiff, Nat.reduceAdd, Nat.reduceLT, ↓us_sl1Cur_changes, r_sl1Cur_changes]
        refine ⟨hc11.mono (by omega), hg011, _, ho11, ?_, fun c hc => ?_⟩
        · rw [List.length_append, hml, mirL_len]; omega
        · rcases List.mem_append.1 hc with h | h
          · exact hch5 c (mirL_mem h)
          · have h := mirL_mem h
            rw [List.mem_singleton] at h; rw [h]; exact hz
    · have gI : (0 : Int) < ((g + 1 : Nat) : Int) := by omega
      have gJ : ¬ ((g + 1 : Nat) : Int) ≤ 0 := by omega
      have eg : ((g + 1 : Nat) : Int) - 1 = (g : Nat) := by omega
      simp only [↓vsd, vsn, gW, qd, qv, ev, pick, argE, zipE, ne_eq, eq_self, forall_const, implies_true, if_true, if_false, reduceIte, reduceCtorEq, Nat.reduceEqDiff, Nat.reduceAdd, Nat.reduceLT, ↓us_sl1Cur_changes, r_sl1Cur_changes, gI, gJ, eg]
      refine m_callw (by first | exact .inl rfl | exact .inr rfl) (sl1Cur_change_ok W b _ m hm _ (by omega) hc5) ?_
      rintro _ w6 ⟨hc6, hg6, z, rfl, hz⟩
      simp only [↓vsd, vsn, gW, qd, qv, ev, pick, argE, zipE, ne_eq, eq_self, forall_const, implies_true, if_true, if_false, reduceIte, reduceCtorEq, Nat.reduceEqDiff, Nat.reduceAdd, Nat.reduceLT, ↓us_sl1Cur_changes, r_sl1Cur_changes]
      refine m_bsl (one_el rfl) ?_
      rintro b7 w7 hb7e hblk7 hx7 hs7
      simp only [↓vsd, vsn, gW, qd, qv, ev, pick, argE, zipE, ne_eq, eq_self, forall_const, implies_true, if_true, if_false, reduceIte, reduceCtorEq, Nat.reduceEqDiff, Nat.reduceAdd, Nat.reduceLT, ↓us_sl1Cur_changes, r_sl1Cur_changes]
      have ho6 := ho5.keep hg6 (fun c hc => by cases hc; exact hbw)
      have hg06 := gtr95 hg5 hg6
      have hz6 := hg06.size
      refine m_app (ho6.ext hx7) (Sq.one fS_len hblk7 rfl) fS_one (by decide) (by simp; omega) (by decide) (by have := hx7.size; omega) ?_
      rintro x8 w8 ho8 hg8
      have hob : ∀ c, x.ownBlock = some c → w.heap.size ≤ c := fun c hc => (ho5.bound c hc).1
      have hc8 := (hc6.ext hx7).keep hg8 (fun c hc => by have := hob c hc; omega)
      have hg08 := gapp95 (gtr95 hg06 (grown_ext _ hx7)) hg8 hob
      simp only [↓vsd, vsn, gW, qd, qv, ev, pick, argE, zipE, ne_eq, eq_self, forall_const, implies_true, if_true, if_false, reduceIte, reduceCtorEq, Nat.reduceEqDiff, Nat.reduceAdd, Nat.reduceLT, ↓us_sl1Cur_changes, r_sl1Cur_changes, gI, gJ, eg]
      refine ⟨inR_i64 (by omega), g, by omega, x8, _, ⟨rfl, rfl⟩, ?_, ho8, ?_, hc8.mono ?_, hg08⟩
      · rw [List.length_append, List.length_singleton]; omega
      · intro c hc
        rcases List.mem_append.1 hc with h | h
        · exact hch5 c h
        · rw [List.mem_singleton] at h; rw [h]; exact hz
      · rw [List.length_append, List.length_singleton]; omega
  · simp only [↓vsd, vsn, gW, qd, qv, ev, pick, argE, zipE, ne_eq, eq_self, forall_const, implies_true, if_true, if_false, reduceIte, reduceCtorEq, Nat.reduceEqDiff, Nat.reduceAdd, Nat.reduceLT, ↓us_sl1Cur_changes, r_sl1Cur_changes]
    refine m_callw (by first | exact .inl rfl | exact .inr rfl) (sl1Cur_method_ok W b _ _ (by omega) hc1) ?_
    rintro _ w2 ⟨hc2, hg2, nm, st, y, cs, rfl, hoy, hme, hst⟩
    simp only [↓vsd, vsn, gW, qd, qv, ev, pick, argE, zipE, ne_eq, eq_self, forall_const, implies_true, if_true, if_false, reduceIte, reduceCtorEq, Nat.reduceEqDiff, Nat.reduceAdd, Nat.reduceLT, ↓us_sl1Cur_changes, r_sl1Cur_changes]
    refine m_al ?_
    rintro b3 w3 hb3e hblk3 hx3 hs3
    have hb3 : Blk w3 b3 (fM [] 0 (.slice none 0 0)) 44 := hblk3
    simp only [↓vsd, vsn, gW, qd, qv, ev, pick, argE, zipE, ne_eq, eq_self, forall_const, implies_true, if_true, if_false, reduceIte, reduceCtorEq, Nat.reduceEqDiff, Nat.reduceAdd, Nat.reduceLT, ↓us_sl1Cur_changes, r_sl1Cur_changes]
    refine m_st hb3 rfl (by decide : 0 + 3 ≤ 3) (fM_one _ _ _ hoy.sq.one') ?_
    rintro w4 hb4' hu4
    have hb4 : Blk w4 b3 (fM nm st y) 44 := hb4'
    have hbw := hc.lt.2
    have hz1 := hg1.size
    have hz2 := hg2.size
    have hoy4 := ((hoy.mono hz1).ext hx3).off hu4.grown (fun c hc => by cases hc; exact hoy.away (by omega))
    have hc4 := (hc2.ext hx3).keep hu4.grown (fun c hc => by cases hc; omega)
    have hg4 := gapp95 (gtr95 (gtr95 hg1 hg2) (grown_ext _ hx3)) hu4.grown (fun c hc => by cases hc; omega)
    by_cases hst2 : st = m
    · simp only [↓vsd, vsn, gW, qd, qv, ev, pick, argE, zipE, ne_eq, eq_self, forall_const, implies_true, if_true, if_false, reduceIte, reduceCtorEq, Nat.reduceEqDiff, Nat.reduceAdd, Nat.reduceLT, ↓us_sl1Cur_changes, r_sl1Cur_changes, hb4.facts, fMg, hst2]
      exact ⟨hc4.mono (by omega), hg4, cs, hoy4, hme.2.2.1, by rw [← hst2]; exact hme.2.2.2⟩
    · simp only [↓vsd, vsn, gW, qd, qv, ev, pick, argE, zipE, ne_eq, eq_self, forall_const, implies_true, if_true, if_false, reduceIte, reduceCtorEq, Nat.reduceEqDiff, Nat.reduceAdd, Nat.reduceLT, ↓us_sl1Cur_changes, r_sl1Cur_changes, hb4.facts, fMg, hst2]
      have hcz := hc4.mono (m := n + 62) (by omega)
      have hgz := hg4
      refine m_callw (by first | exact .inl rfl | exact .inr rfl) (sl1Cur_pick_ok W b _ 6 (by omega) _ (by omega) hcz) ?_
      rintro _ w4 ⟨hc4, hg4, k0, rfl, hk0⟩
      have hgz4 := gtr95 hgz hg4
      have hk6 : k0 < 6 := by omega
      simp only [↓vsd, vsn, gW, qd, qv, ev, pick, argE, zipE, ne_eq, eq_self, forall_const, implies_true, if_true, if_false, reduceIte, reduceCtorEq, Nat.reduceEqDiff, Nat.reduceAdd, Nat.reduceLT, ↓us_sl1Cur_changes, r_sl1Cur_changes]
      refine ⟨inR_i64 (by omega), ?_⟩
      refine m_loop (fun m' vs w' => ∃ (x : Value) (acc : List Bs), vs = [x, .int .i64 m'] ∧ acc.length + m' = k0 + 1 ∧ Own fS 1 9 w.heap.size w' x acc ∧ (∀ c ∈ acc, IsChange m c) ∧ Cur W b (n + 66 + 2 * acc.length) w' ∧ w.grownBy w' (some b)) (k0 + 1) ⟨_, [], by simp; omega, by simp, Own.nil fS_len, by simp, hc4.mono (by simp), hgz4⟩ ?_
      rintro m' vs w5 ⟨x, acc, rfl, hm', ho5, hch5, hc5, hg5⟩
      have hbw := hc.lt.2
      rcases m' with _ | g
      · have gI : ¬ (0 : Int) < ((0 : Nat) : Int) := by decide
        have gJ : ((0 : Nat) : Int) ≤ 0 := by decide
        simp only [↓vsd, vsn, gW, qd, qv, ev, pick, argE, zipE, ne_eq, eq_self, forall_const, implies_true, if_true, if_false, reduceIte, reduceCtorEq, Nat.reduceEqDiff, Nat.reduceAdd, Nat.reduceLT, ↓us_sl1Cur_changes, r_sl1Cur_changes, gI, gJ]
        refine m_callw (by first | exact .inl rfl | exact .inr rfl) (sl1Cur_one_ok W b _ 2 (by omega) _ (by omega) hc5) ?_
        rintro _ w6 ⟨hc6, hg6, z, rfl⟩
        have ho6 := ho5.keep hg6 (fun c hc => by cases hc; exact hbw)
        have hg06 := gtr95 hg5 hg6
        have hz6 := hg06.size
        cases z
        · simp only [↓vsd, vsn, gW, qd, qv, ev, pick, argE, zipE, ne_eq, eq_self, forall_const, implies_true, if_true, if_false, reduceIte, reduceCtorEq, Nat.reduceEqDiff, Nat.reduceAdd, Nat.reduceLT, ↓us_sl1Cur_changes, r_sl1Cur_changes]
          exact ⟨hc6.mono (by omega), hg06, acc, ho6, ⟨by omega, by omega⟩, hch5⟩
        · simp only [↓vsd, vsn, gW, qd, qv, ev, pick, argE, zipE, ne_eq, eq_self, forall_const, implies_true, if_true, if_false, reduceIte, reduceCtorEq, Nat.reduceEqDiff, Nat.reduceAdd, Nat.reduceLT, ↓us_sl1Cur_changes, r_sl1Cur_changes]
          refine m_call (sl3Mirror_ok x acc (by omega) _ ho6.sq) ?_
          rintro y7 w7 hx7 ho7
          simp only [↓vsd, vsn, gW, qd, qv, ev, pick, argE, zipE, ne_eq, eq_self, forall_const, implies_true, if_true, if_false, reduceIte, reduceCtorEq, Nat.reduceEqDiff, Nat.reduceAdd, Nat.reduceLT, ↓us_sl1Cur_changes, r_sl1Cur_changes]
          refine m_callw (by first | exact .inl rfl | exact .inr rfl) (sl1Cur_change_ok W b _ m hm _ (by omega) (hc6.ext hx7)) ?_
          rintro _ w8 ⟨hc8, hg8, z, rfl, hz⟩
          simp only [↓vsd, vsn, gW, qd, qv, ev, pick, argE, zipE, ne_eq, eq_self, forall_const, implies_true, if_true, if_false, reduceIte, reduceCtorEq, Nat.reduceEqDiff, Nat.reduceAdd, Nat.reduceLT, ↓us_sl1Cur_changes, r_sl1Cur_changes]
          refine m_bsl (one_el rfl) ?_
          rintro b9 w9 hb9e hblk9 hx9 hs9
          simp only [↓vsd, vsn, gW, qd, qv, ev, pick, argE, zipE, ne_eq, eq_self, forall_const, implies_true, if_true, if_false, reduceIte, reduceCtorEq, Nat.reduceEqDiff, Nat.reduceAdd, Nat.reduceLT, ↓us_sl1Cur_changes, r_sl1Cur_changes]
          refine m_call (sl3Mirror_ok _ [z] (by simp) _ (Sq.one fS_len hblk9 rfl)) ?_
          rintro u10 w10 hx10 ho10
          simp only [↓vsd, vsn, gW, qd, qv, ev, pick, argE, zipE, ne_eq, eq_self, forall_const, implies_true, if_true, if_false, reduceIte, reduceCtorEq, Nat.reduceEqDiff, Nat.reduceAdd, Nat.reduceLT, ↓us_sl1Cur_changes, r_sl1Cur_changes]
          have hz7 := hx7.size
          have hz8 := hg8.size
          have hz9 := hx9.size
          have hz10 := hx10.size
          have ho7b := (((ho7.mono hz6).keep hg8 (fun c hc => by cases hc; exact hbw)).ext hx9).ext hx10
          have hml : (mirL [z]).length = 1 := by rw [mirL_len]; rfl
          refine m_app ho7b ho10.sq fS_one (by decide) (by rw [hml, mirL_len]; omega) (by decide) (by omega) ?_
          rintro x11 w11 ho11 hg11
          have hob : ∀ c, y7.ownBlock = some c → w.heap.size ≤ c := fun c hc => (ho7b.bound c hc).1
          have hc11 := ((hc8.ext hx9).ext hx10).keep hg11 (fun c hc => by have := hob c hc; omega)
          have hg011 := gapp95 (gtr95 (gtr95 (gtr95 (gtr95 hg06 (grown_ext _ hx7)) hg8) (grown_ext _ hx9)) (grown_ext _ hx10)) hg11 hob
          simp only [↓vsd, vsn, gW, qd, qv, ev, pick, argE, zipE, ne_eq, eq_self, forall_const, implies_true, if_true, if_false, reduceIte, reduceCtorEq, Nat.reduceEqDiff, Nat.reduceAdd, Nat.reduceLT, ↓us_sl1Cur_changes, r_sl1Cur_changes]
          refine ⟨hc11.mono (by omega), hg011, _, ho11, ?_, fun c hc => ?_⟩
          · rw [List.length_append, hml, mirL_len]; omega
          · rcases List.mem_append.1 hc with h | h
            · exact hch5 c (mirL_mem h)
            · have h := mirL_mem h
              rw [List.mem_singleton] at h; rw [h]; exact hz
      · have gI : (0 : Int) < ((g + 1 : Nat) : Int) := by omega
        have gJ : ¬ ((g + 1 : Nat) : Int) ≤ 0 := by omega
        have eg : ((g + 1 : Nat) : Int) - 1 = (g : Nat) := by omega
        simp only [↓vsd, vsn, gW, qd, qv, ev, pick, argE, zipE, ne_eq, eq_self, forall_const, implies_true, if_true, if_false, reduceIte, reduceCtorEq, Nat.reduceEqDiff, Nat.reduceAdd, Nat.reduceLT, ↓us_sl1Cur_changes, r_sl1Cur_changes, gI, gJ, eg]
        refine m_callw (by first | exact .inl rfl | exact .inr rfl) (sl1Cur_change_ok W b _ m hm _ (by omega) hc5) ?_
        rintro _ w6 ⟨hc6, hg6, z, rfl, hz⟩
        simp only [↓vsd, vsn, gW, qd, qv, ev, pick, argE, zipE, ne_eq, eq_self, forall_const, implies_true, if_true, if_false, reduceIte, reduceCtorEq, Nat.reduceEqDiff, Nat.reduceAdd, Nat.reduceLT, ↓us_sl1Cur_changes, r_sl1Cur_changes]
        refine m_bsl (one_el rfl) ?_
        rintro b7 w7 hb7e hblk7 hx7 hs7
        simp only [↓vsd, vsn, gW, qd, qv, ev, pick, argE, zipE, ne_eq, eq_self, forall_const, implies_true, if_true, if_false, reduceIte, reduceCtorEq, Nat.reduceEqDiff, Nat.reduceAdd, Nat.reduceLT, ↓us_sl1Cur_changes, r_sl1Cur_changes]
        have ho6 := ho5.keep hg6 (fun c hc => by cases hc; exact hbw)
        have hg06 := gtr95 hg5 hg6
        have hz6 := hg06.size
        refine m_app (ho6.ext hx7) (Sq.one fS_len hblk7 rfl) fS_one (by decide) (by simp; omega) (by decide) (by have := hx7.size; omega) ?_
        rintro x8 w8 ho8 hg8
        have hob : ∀ c, x.ownBlock = some c → w.heap.size ≤ c := fun c hc => (ho5.bound c hc).1
        have hc8 := (hc6.ext hx7).keep hg8 (fun c hc => by have := hob c hc; omega)
        have hg08 := gapp95 (gtr95 hg06 (grown_ext _ hx7)) hg8 hob
        simp only [↓vsd, vsn, gW, qd, qv, ev, pick, argE, zipE, ne_eq, eq_self, forall_const, implies_true, if_true, if_false, reduceIte, reduceCtorEq, Nat.reduceEqDiff, Nat.reduceAdd, Nat.reduceLT, ↓us_sl1Cur_changes, r_sl1Cur_changes, gI, gJ, eg]
        refine ⟨inR_i64 (by omega), g, by omega, x8, _, ⟨rfl, rfl⟩, ?_, ho8, ?_, hc8.mono ?_, hg08⟩
        · rw [List.length_append, List.length_singleton]; omega
        · intro c hc
          rcases List.mem_append.1 hc with h | h
          · exact hch5 c h
          · rw [List.mem_singleton] at h; rw [h]; exact hz
        · rw [List.length_append, List.length_singleton]; omega
/-- A drawn list with its stage: at most 41 texts. -/
def AnyC (w' : World) (r : Value) : Prop := ∃ (m : Int) (y : Value) (l : List Bs), r = .tuple ⟨[.int .i64 m, y]⟩ ∧ Sq fS 1 w' y l ∧ l.length ≤ 41 ∧ ∀ c ∈ l, c.length ≤ 8
theorem sl1Cur_anyChanges_ok (W : World) (b n : Nat) (w : World) (hn : n ≤ 500000000) (hc : Cur W b n w) : CurFn 49 [cV b] W b n 300 w (fun r w' => AnyC w' r) := by
  (refine callsV_of mix Try.func49 c_sl1Cur_anyChanges ?_; simp only [↓vsd, vsn, gW, qd, qv, ev, pick, argE, zipE, ne_eq, eq_self, forall_const, implies_true, if_true, if_false, reduceIte, reduceCtorEq, Nat.reduceEqDiff, Nat.reduceAdd, Nat.reduceLT, ↓us_sl1Cur_anyChanges, r_sl1Cur_anyChanges])
  refine m_callw (by first | exact .inl rfl | exact .inr rfl) (sl1Cur_stage_ok W b n _ (by omega) hc) ?_
  rintro _ w1 ⟨hc1, hg1, m, rfl, hm3, hm8⟩
  simp only [↓vsd, vsn, gW, qd, qv, ev, pick, argE, zipE, ne_eq, eq_self, forall_const, implies_true, if_true, if_false, reduceIte, reduceCtorEq, Nat.reduceEqDiff, Nat.reduceAdd, Nat.reduceLT, ↓us_sl1Cur_anyChanges, r_sl1Cur_anyChanges]
  refine m_callw (by first | exact .inl rfl | exact .inr rfl) (sl1Cur_changes_ok W b _ m ⟨hm3, hm8⟩ _ (by omega) hc1) ?_
  rintro y w2 ⟨hc2, hg2, l, ho2, hl2, hch⟩
  simp only [↓vsd, vsn, gW, qd, qv, ev, pick, argE, zipE, ne_eq, eq_self, forall_const, implies_true, if_true, if_false, reduceIte, reduceCtorEq, Nat.reduceEqDiff, Nat.reduceAdd, Nat.reduceLT, ↓us_sl1Cur_anyChanges, r_sl1Cur_anyChanges]
  refine m_callw (by first | exact .inl rfl | exact .inr rfl) (sl1Cur_pick_ok W b _ 20 (by omega) _ (by omega) hc2) ?_
  rintro _ w3 ⟨hc3, hg3, p, rfl, hp⟩
  have hs8 : ∀ c ∈ l, c.length ≤ 8 := fun c hc => by have := change_len (hch c hc); omega
  have ho3 := ho2.keep hg3 (fun c hc => by cases hc; have := hc1.lt.2; omega)
  have hg13 := gtr95 (gtr95 hg1 hg2) hg3
  simp only [↓vsd, vsn, gW, qd, qv, ev, pick, argE, zipE, ne_eq, eq_self, forall_const, implies_true, if_true, if_false, reduceIte, reduceCtorEq, Nat.reduceEqDiff, Nat.reduceAdd, Nat.reduceLT, ↓us_sl1Cur_anyChanges, r_sl1Cur_anyChanges]
  refine ⟨fun _ => ?_, fun _ => ⟨fun _ => ⟨hc3.mono (by omega), hg13, _, _, [], rfl, Sq.nil fS_len, by simp, by simp⟩, fun _ => ⟨fun _ => ⟨inR_i64 (by omega), hc3.mono (by omega), hg13, _, _, l, rfl, ho3.sq, by omega, hs8⟩, fun _ => ⟨fun _ => ?_, fun _ => ?_⟩⟩⟩⟩
  · refine m_call (sl1OwnS_ok y l (by omega) _ ho3.sq) ?_
    rintro y4 w4 hx4 ho4
    simp only [↓vsd, vsn, gW, qd, qv, ev, pick, argE, zipE, ne_eq, eq_self, forall_const, implies_true, if_true, if_false, reduceIte, reduceCtorEq, Nat.reduceEqDiff, Nat.reduceAdd, Nat.reduceLT, ↓us_sl1Cur_anyChanges, r_sl1Cur_anyChanges]
    refine m_bsl (one_el rfl) ?_
    rintro b5 w5 hb5e hblk5 hx5 hs5
    simp only [↓vsd, vsn, gW, qd, qv, ev, pick, argE, zipE, ne_eq, eq_self, forall_const, implies_true, if_true, if_false, reduceIte, reduceCtorEq, Nat.reduceEqDiff, Nat.reduceAdd, Nat.reduceLT, ↓us_sl1Cur_anyChanges, r_sl1Cur_anyChanges]
    refine m_app (ho4.ext hx5) (Sq.one fS_len hblk5 rfl) fS_one (by decide) (by simp; omega) (by decide) (by have := hx4.size; have := hx5.size; omega) ?_
    rintro y6 w6 ho6 hg6
    simp only [↓vsd, vsn, gW, qd, qv, ev, pick, argE, zipE, ne_eq, eq_self, forall_const, implies_true, if_true, if_false, reduceIte, reduceCtorEq, Nat.reduceEqDiff, Nat.reduceAdd, Nat.reduceLT, ↓us_sl1Cur_anyChanges, r_sl1Cur_anyChanges]
    have hz3 := hg13.size
    have hlt3 := hc3.lt.2
    refine ⟨(((hc3.ext hx4).ext hx5).keep hg6 (fun c hc => by have := (ho4.bound c hc).1; omega)).mono (by omega), gapp95 (gtr95 (gtr95 hg13 (grown_ext _ hx4)) (grown_ext _ hx5)) hg6 (fun c hc => by have := (ho4.bound c hc).1; omega), _, y6, l ++ [[120]], rfl, ho6.sq, by rw [List.length_append, List.length_singleton]; omega, fun c hc => ?_⟩
    rcases List.mem_append.1 hc with h | h
    · exact hs8 c h
    · rw [List.mem_singleton] at h; rw [h]; decide
  · refine m_call (sl1OwnS_ok y l (by omega) _ ho3.sq) ?_
    rintro y4 w4 hx4 ho4
    simp only [↓vsd, vsn, gW, qd, qv, ev, pick, argE, zipE, ne_eq, eq_self, forall_const, implies_true, if_true, if_false, reduceIte, reduceCtorEq, Nat.reduceEqDiff, Nat.reduceAdd, Nat.reduceLT, ↓us_sl1Cur_anyChanges, r_sl1Cur_anyChanges]
    refine m_callw (by first | exact .inl rfl | exact .inr rfl) (sl1Cur_pick_ok W b _ 2 (by omega) _ (by omega) (hc3.ext hx4)) ?_
    rintro _ w5 ⟨hc5, hg5, q, rfl, hq⟩
    simp only [↓vsd, vsn, gW, qd, qv, ev, pick, argE, zipE, ne_eq, eq_self, forall_const, implies_true, if_true, if_false, reduceIte, reduceCtorEq, Nat.reduceEqDiff, Nat.reduceAdd, Nat.reduceLT, ↓us_sl1Cur_anyChanges, r_sl1Cur_anyChanges]
    have hq2 : q < 2 := by omega
    have hbw := hc.lt.2
    have hz3 := hg13.size
    have hz4 := hx4.size
    have ho5 := (ho4.mono hz3).keep hg5 (fun c hc => by cases hc; exact hbw)
    have hg15 := gtr95 (gtr95 hg13 (grown_ext _ hx4)) hg5
    refine ⟨inR_i64 (by omega), ?_⟩
    refine m_loop (fun k vs w' => ∃ (x : Value) (acc : List Bs), vs = [x] ∧ acc.length + k = 41 ∧ acc.length ≤ 40 + q ∧ Own fS 1 9 w.heap.size w' x acc ∧ (∀ c ∈ acc, c.length ≤ 8) ∧ Cur W b (n + 110 + 2 * acc.length) w' ∧ w.grownBy w' (some b)) (41 - l.length) ⟨y4, l, rfl, by omega, by omega, ho5, hs8, hc5.mono (by omega), hg15⟩ ?_
    rintro k vs w6 ⟨x, acc, rfl, hk, hkq, ho6, hs6, hc6, hg6⟩
    have hf6 := ho6.sq.facts
    by_cases hlt : acc.length < 40 + q
    · have hltI : (acc.length : Int) < 40 + (q : Nat) := by omega
      simp only [↓vsd, vsn, gW, qd, qv, ev, pick, argE, zipE, ne_eq, eq_self, forall_const, implies_true, if_true, if_false, reduceIte, reduceCtorEq, Nat.reduceEqDiff, Nat.reduceAdd, Nat.reduceLT, ↓us_sl1Cur_anyChanges, r_sl1Cur_anyChanges, hf6, hltI]
      refine m_callw (by first | exact .inl rfl | exact .inr rfl) (sl1Cur_change_ok W b _ m ⟨hm3, hm8⟩ _ (by omega) hc6) ?_
      rintro _ w7 ⟨hc7, hg7, z, rfl, hz⟩
      simp only [↓vsd, vsn, gW, qd, qv, ev, pick, argE, zipE, ne_eq, eq_self, forall_const, implies_true, if_true, if_false, reduceIte, reduceCtorEq, Nat.reduceEqDiff, Nat.reduceAdd, Nat.reduceLT, ↓us_sl1Cur_anyChanges, r_sl1Cur_anyChanges]
      refine m_bsl (one_el rfl) ?_
      rintro b8 w8 hb8e hblk8 hx8 hs8'
      simp only [↓vsd, vsn, gW, qd, qv, ev, pick, argE, zipE, ne_eq, eq_self, forall_const, implies_true, if_true, if_false, reduceIte, reduceCtorEq, Nat.reduceEqDiff, Nat.reduceAdd, Nat.reduceLT, ↓us_sl1Cur_anyChanges, r_sl1Cur_anyChanges]
      have ho7 := ho6.keep hg7 (fun c hc => by cases hc; exact hbw)
      have hg07 := gtr95 hg6 hg7
      have hz7 := hg07.size
      refine m_app (ho7.ext hx8) (Sq.one fS_len hblk8 rfl) fS_one (by decide) (by simp; omega) (by decide) (by have := hx8.size; omega) ?_
      rintro x9 w9 ho9 hg9
      have hob : ∀ c, x.ownBlock = some c → w.heap.size ≤ c := fun c hc => (ho6.bound c hc).1
      have hc9 := (hc7.ext hx8).keep hg9 (fun c hc => by have := hob c hc; omega)
      have hg09 := gapp95 (gtr95 hg07 (grown_ext _ hx8)) hg9 hob
      simp only [↓vsd, vsn, gW, qd, qv, ev, pick, argE, zipE, ne_eq, eq_self, forall_const, implies_true, if_true, if_false, reduceIte, reduceCtorEq, Nat.reduceEqDiff, Nat.reduceAdd, Nat.reduceLT, ↓us_sl1Cur_anyChanges, r_sl1Cur_anyChanges]
      refine ⟨k - 1, by omega, x9, _, rfl, ?_, ?_, ho9, fun c hc => ?_, hc9.mono ?_, hg09⟩
      · rw [List.length_append, List.length_singleton]; omega
      · rw [List.length_append, List.length_singleton]; omega
      · rcases List.mem_append.1 hc with h | h
        · exact hs6 c h
        · rw [List.mem_singleton] at h; rw [h]; have := change_len hz; omega
      · rw [List.length_append, List.length_singleton]; omega
    · have hltI : ¬ (acc.length : Int) < 40 + (q : Nat) := by omega
      simp only [↓vsd, vsn, gW, qd, qv, ev, pick, argE, zipE, ne_eq, eq_self, forall_const, implies_true, if_true, if_false, reduceIte, reduceCtorEq, Nat.reduceEqDiff, Nat.reduceAdd, Nat.reduceLT, ↓us_sl1Cur_anyChanges, r_sl1Cur_anyChanges, hf6, hltI]
      exact ⟨hc6.mono (by omega), hg6, _, x, acc, rfl, ho6.sq, by omega, hs6⟩
  · exact ⟨hc3.mono (by omega), hg13, _, _, l, rfl, ho3.sq, by omega, hs8⟩
theorem sDrawNotationText_ok (v : Value) (code : List UInt8) (hl : code.length ≤ 1048576) (w : World) (h : Sq fU 1 w v code) : Fn 21 [v] w (fun r w' => AnyC w' r) := by
  (refine callsV_of mix Try.func21 c_sDrawNotationText ?_; simp only [↓vsd, vsn, gW, qd, qv, ev, pick, argE, zipE, ne_eq, eq_self, forall_const, implies_true, if_true, if_false, reduceIte, reduceCtorEq, Nat.reduceEqDiff, Nat.reduceAdd, Nat.reduceLT, ↓us_sDrawNotationText, r_sDrawNotationText])
  simp only [↓vsd, vsn, gW, qd, qv, ev, pick, argE, zipE, ne_eq, eq_self, forall_const, implies_true, if_true, if_false, reduceIte, reduceCtorEq, Nat.reduceEqDiff, Nat.reduceAdd, Nat.reduceLT, ↓us_sDrawNotationText, r_sDrawNotationText, h.facts]
  refine m_al ?_
  rintro b w1 hb hblk hx1 hs1
  have hc := Cur.new h hl hb hblk hx1
  simp only [↓vsd, vsn, gW, qd, qv, ev, pick, argE, zipE, ne_eq, eq_self, forall_const, implies_true, if_true, if_false, reduceIte, reduceCtorEq, Nat.reduceEqDiff, Nat.reduceAdd, Nat.reduceLT, ↓us_sDrawNotationText, r_sDrawNotationText]
  refine m_callw (by first | exact .inl rfl | exact .inr rfl) (sl1Cur_anyChanges_ok w b _ w1 (by omega) hc) ?_
  rintro _ w2 ⟨hc2, hg2, n, y, l, rfl, hq, hl1, hs1⟩
  simp only [↓vsd, vsn, gW, qd, qv, ev, pick, argE, zipE, ne_eq, eq_self, forall_const, implies_true, if_true, if_false, reduceIte, reduceCtorEq, Nat.reduceEqDiff, Nat.reduceAdd, Nat.reduceLT, ↓us_sDrawNotationText, r_sDrawNotationText]
  exact ⟨hc2.base, n, y, l, rfl, hq, hl1, hs1⟩
theorem sDrawHalvesOf_ok (v : Value) (code : List UInt8) (hl : code.length ≤ 1048576) (w : World) (h : Sq fU 1 w v code) : Fn 7 [v] w (fun r w' => AnyC w' r) := by
  (refine callsV_of mix Try.func7 c_sDrawHalvesOf ?_; simp only [↓vsd, vsn, gW, qd, qv, ev, pick, argE, zipE, ne_eq, eq_self, forall_const, implies_true, if_true, if_false, reduceIte, reduceCtorEq, Nat.reduceEqDiff, Nat.reduceAdd, Nat.reduceLT, ↓us_sDrawHalvesOf, r_sDrawHalvesOf])
  refine m_call (sDrawNotationText_ok v code hl _ h) ?_
  rintro _ w1 hx1 ⟨n, y, l, rfl, hq, hl1, hs1⟩
  simp only [↓vsd, vsn, gW, qd, qv, ev, pick, argE, zipE, ne_eq, eq_self, forall_const, implies_true, if_true, if_false, reduceIte, reduceCtorEq, Nat.reduceEqDiff, Nat.reduceAdd, Nat.reduceLT, ↓us_sDrawHalvesOf, r_sDrawHalvesOf]
  exact ⟨hx1, n, y, l, rfl, hq, hl1, hs1⟩
theorem sDrawMirrorAll_ok (v : Value) (code : List UInt8) (hl : code.length ≤ 1048576) (w : World) (h : Sq fU 1 w v code) : Fn 12 [v] w (fun r w' => ∃ l : List Bs, Sq fS 1 w' r l ∧ l.length ≤ 41 ∧ ∀ c ∈ l, c.length ≤ 8) := by
  (refine callsV_of mix Try.func12 c_sDrawMirrorAll ?_; simp only [↓vsd, vsn, gW, qd, qv, ev, pick, argE, zipE, ne_eq, eq_self, forall_const, implies_true, if_true, if_false, reduceIte, reduceCtorEq, Nat.reduceEqDiff, Nat.reduceAdd, Nat.reduceLT, ↓us_sDrawMirrorAll, r_sDrawMirrorAll])
  refine m_call (sDrawNotationText_ok v code hl _ h) ?_
  rintro _ w1 hx1 ⟨n, y, l, rfl, hq, hl1, hs1⟩
  simp only [↓vsd, vsn, gW, qd, qv, ev, pick, argE, zipE, ne_eq, eq_self, forall_const, implies_true, if_true, if_false, reduceIte, reduceCtorEq, Nat.reduceEqDiff, Nat.reduceAdd, Nat.reduceLT, ↓us_sDrawMirrorAll, r_sDrawMirrorAll, h.facts]
  refine m_al ?_
  rintro b w2 hb hblk hx2 hs2
  have hc := Cur.new (h.ext hx1) hl hb hblk hx2
  simp only [↓vsd, vsn, gW, qd, qv, ev, pick, argE, zipE, ne_eq, eq_self, forall_const, implies_true, if_true, if_false, reduceIte, reduceCtorEq, Nat.reduceEqDiff, Nat.reduceAdd, Nat.reduceLT, ↓us_sDrawMirrorAll, r_sDrawMirrorAll]
  refine m_callw (by first | exact .inl rfl | exact .inr rfl) (sl1Cur_one_ok w1 b _ 12 (by omega) _ (by omega) hc) ?_
  rintro _ w3 ⟨hc3, hg3, z, rfl⟩
  cases z
  · simp only [↓vsd, vsn, gW, qd, qv, ev, pick, argE, zipE, ne_eq, eq_self, forall_const, implies_true, if_true, if_false, reduceIte, reduceCtorEq, Nat.reduceEqDiff, Nat.reduceAdd, Nat.reduceLT, ↓us_sDrawMirrorAll, r_sDrawMirrorAll]
    exact ⟨hx1.trans hc3.base, l, hq.ext hc3.base, hl1, hs1⟩
  · simp only [↓vsd, vsn, gW, qd, qv, ev, pick, argE, zipE, ne_eq, eq_self, forall_const, implies_true, if_true, if_false, reduceIte, reduceCtorEq, Nat.reduceEqDiff, Nat.reduceAdd, Nat.reduceLT, ↓us_sDrawMirrorAll, r_sDrawMirrorAll]
    refine m_callw (by first | exact .inl rfl | exact .inr rfl) (sl1Cur_pick_ok w1 b _ 22 (by omega) _ (by omega) hc3) ?_
    rintro _ w4 ⟨hc4, hg4, p, rfl, hp⟩
    have hp22 : p < 22 := by omega
    have ep : (20 : Int) + (p : Nat) = ((20 + p : Nat) : Int) := by omega
    simp only [↓vsd, vsn, gW, qd, qv, ev, pick, argE, zipE, ne_eq, eq_self, forall_const, implies_true, if_true, if_false, reduceIte, reduceCtorEq, Nat.reduceEqDiff, Nat.reduceAdd, Nat.reduceLT, ↓us_sDrawMirrorAll, r_sDrawMirrorAll, ep]
    refine ⟨inR_i64 (by omega), ?_⟩
    refine m_msl (f := fS) (B := w.heap.size) [] fS_len rfl (by omega) (by decide) (hx1.trans hc4.base).size ?_
    rintro y5 w5 ho5 hlo5 hx5
    simp only [↓vsd, vsn, gW, qd, qv, ev, pick, argE, zipE, ne_eq, eq_self, forall_const, implies_true, if_true, if_false, reduceIte, reduceCtorEq, Nat.reduceEqDiff, Nat.reduceAdd, Nat.reduceLT, ↓us_sDrawMirrorAll, r_sDrawMirrorAll]
    exact ⟨(hx1.trans hc4.base).trans hx5, _, ho5.sq, by rw [List.length_replicate]; omega, fun c hc => by rw [List.eq_of_mem_replicate hc]; decide⟩
end Go.Proofs.Ytfklonhjgkahdaa
