/-
  Decimals of one digit; the printed parts of a touch, of both sides.
  Conditions: none.
-/
import Derived.Test.YtnbnofmnbopknaaDoorB5
set_option linter.unusedSimpArgs false
set_option linter.unusedVariables false
set_option linter.defProp false
namespace Go.Proofs.YtnbnofmnbopknaaDoor
open Go Go.RowKit
section
variable (P : Program) (k : KT) (e : Env) (w : World)
abbrev b72_1 : X := (.cond (.t 4) (.seq (.reg [2] (.c (.q 5 [] (.mv (.t 0))) (.c (.q 6 [] (.mv (.t 0))) (.c (.q 7 [] (.bin .add (.t 6) (.c (.int .i64 1)))) (.c (.q 8 [] (.sub (.s [48, 49, 50, 51, 52, 53, 54, 55, 56, 57, 97, 98, 99, 100, 101, 102, 103, 104, 105, 106, 107, 108, 109, 110, 111, 112, 113, 114, 115, 116, 117, 118, 119, 120, 121, 122]) (some (.t 5)) (some (.t 7)))) (.c (.q 2 [] (.mv (.t 8))) .nil)))))) .ret) .skip)
def t72_1 := b72_1
theorem u72_1 : vcK P t72_1 k e w = vcK P b72_1 k e w := rfl
abbrev b72_2 : X := (.seq (.reg [2] (.c (.q 9 [] (.mv (.t 0))) (.c (.q 10 [] (.bin .mul (.t 9) (.c (.int .i64 2)))) (.c (.q 11 [] (.mv (.t 0))) (.c (.q 12 [] (.bin .mul (.t 11) (.c (.int .i64 2)))) (.c (.q 13 [] (.bin .add (.t 12) (.c (.int .i64 2)))) (.c (.q 14 [] (.sub (.s [48, 48, 48, 49, 48, 50, 48, 51, 48, 52, 48, 53, 48, 54, 48, 55, 48, 56, 48, 57, 49, 48, 49, 49, 49, 50, 49, 51, 49, 52, 49, 53, 49, 54, 49, 55, 49, 56, 49, 57, 50, 48, 50, 49, 50, 50, 50, 51, 50, 52, 50, 53, 50, 54, 50, 55, 50, 56, 50, 57, 51, 48, 51, 49, 51, 50, 51, 51, 51, 52, 51, 53, 51, 54, 51, 55, 51, 56, 51, 57, 52, 48, 52, 49, 52, 50, 52, 51, 52, 52, 52, 53, 52, 54, 52, 55, 52, 56, 52, 57, 53, 48, 53, 49, 53, 50, 53, 51, 53, 52, 53, 53, 53, 54, 53, 55, 53, 56, 53, 57, 54, 48, 54, 49, 54, 50, 54, 51, 54, 52, 54, 53, 54, 54, 54, 55, 54, 56, 54, 57, 55, 48, 55, 49, 55, 50, 55, 51, 55, 52, 55, 53, 55, 54, 55, 55, 55, 56, 55, 57, 56, 48, 56, 49, 56, 50, 56, 51, 56, 52, 56, 53, 56, 54, 56, 55, 56, 56, 56, 57, 57, 48, 57, 49, 57, 50, 57, 51, 57, 52, 57, 53, 57, 54, 57, 55, 57, 56, 57, 57]) (some (.t 10)) (some (.t 13)))) (.c (.q 2 [] (.mv (.t 14))) .nil)))))))) .ret)
def t72_2 := b72_2
theorem u72_2 : vcK P t72_2 k e w = vcK P b72_2 k e w := rfl
abbrev b72_3 : X := (.seq (.seq (.reg [0, 4] (.c (.q 3 [] (.mv (.t 0))) (.c (.q 4 [] (.bin .lss (.t 3) (.c (.int .i64 10)))) .nil))) t72_1) t72_2)
def t72_3 := b72_3
theorem u72_3 : vcK P t72_3 k e w = vcK P b72_3 k e w := rfl
abbrev b72_0 : X := (.seq (.reg [0] (.c (.q 2 [] (.mv (.s []))) .nil)) t72_3)
def x_xinternal_strconv_small := b72_0
theorem u72_0 : vcK P x_xinternal_strconv_small k e w = vcK P b72_0 k e w := rfl
def r_xinternal_strconv_small : List XO := [(.mv (.t 2))]
theorem c_xinternal_strconv_small : convF Tryd.prog [27, 28, 29, 30, 32, 36, 40, 45, 46, 47, 50, 51, 52, 61, 62, 98] Tryd.f72 [([0], []), ([0, 4], []), ([2], []), ([2], [])] = some (x_xinternal_strconv_small, r_xinternal_strconv_small) := by kernel_rfl
def us_xinternal_strconv_small :=  (aI (aI @u72_0 @u72_1) (aI @u72_2 @u72_3))
abbrev b68_1 : X := (.cond (.t 17) (.seq (.reg [4] (.c (.q 18 [] (.mv (.t 0))) (.c (.e (some 19) [] (.call false 72 [(.t 18)])) (.c (.q 4 [] (.mv (.t 19))) .nil)))) .ret) .skip)
def t68_1 := b68_1
theorem u68_1 : vcK P t68_1 k e w = vcK P b68_1 k e w := rfl
abbrev b68_2 : X := (.cond (.t 23) (.reg [0, 5, 6] (.c (.q 24 [] (.mv (.t 6))) (.c (.q 25 [] (.neg (.t 24))) (.c (.q 6 [] (.mv (.t 25))) .nil)))) .skip)
def t68_2 := b68_2
theorem u68_2 : vcK P t68_2 k e w = vcK P b68_2 k e w := rfl
abbrev b68_3 : X := (.seq .dead .ret)
def t68_3 := b68_3
theorem u68_3 : vcK P t68_3 k e w = vcK P b68_3 k e w := rfl
abbrev b68_4 : X := (.cond (.t 34) (.seq .dead t68_3) .skip)
def t68_4 := b68_4
theorem u68_4 : vcK P t68_4 k e w = vcK P b68_4 k e w := rfl
abbrev b68_5 : X := (.seq .dead .ret)
def t68_5 := b68_5
theorem u68_5 : vcK P t68_5 k e w = vcK P b68_5 k e w := rfl
abbrev b68_6 : X := (.seq (.seq (.reg [5, 7, 34] (.c (.q 33 [] (.mv (.t 0))) (.c (.q 34 [] (.bin .lss (.t 33) (.c (.int .i64 0)))) .nil))) t68_4) t68_5)
def t68_6 := b68_6
theorem u68_6 : vcK P t68_6 k e w = vcK P b68_6 k e w := rfl
abbrev b68_7 : X := (.seq .dead t68_6)
def t68_7 := b68_7
theorem u68_7 : vcK P t68_7 k e w = vcK P b68_7 k e w := rfl
abbrev b68_8 : X := (.seq (.reg [0, 5, 6, 7] (.c (.q 26 [] (.mv (.t 6))) (.c (.e (some 27) [] (.call false 73 [(.t 26)])) (.c (.q 7 [] (.mv (.t 27))) .nil)))) t68_7)
def t68_8 := b68_8
theorem u68_8 : vcK P t68_8 k e w = vcK P b68_8 k e w := rfl
abbrev b68_9 : X := (.seq (.seq (.reg [0, 5, 6, 23] (.c (.q 22 [] (.mv (.t 0))) (.c (.q 23 [] (.bin .lss (.t 22) (.c (.int .i64 0)))) .nil))) t68_2) t68_8)
def t68_9 := b68_9
theorem u68_9 : vcK P t68_9 k e w = vcK P b68_9 k e w := rfl
abbrev b68_10 : X := (.seq (.reg [0, 5, 6] (.c (.q 20 [] (.mv (.t 0))) (.c (.q 21 [] (.cvi .u64 (.t 20))) (.c (.q 6 [] (.mv (.t 21))) .nil)))) t68_9)
def t68_10 := b68_10
theorem u68_10 : vcK P t68_10 k e w = vcK P b68_10 k e w := rfl
abbrev b68_11 : X := (.seq (.reg [0, 5] (.c (.e (some 5) [] (.al 94 [(.int .u8 0), (.int .u8 0), (.int .u8 0), (.int .u8 0), (.int .u8 0), (.int .u8 0), (.int .u8 0), (.int .u8 0), (.int .u8 0), (.int .u8 0), (.int .u8 0), (.int .u8 0), (.int .u8 0), (.int .u8 0), (.int .u8 0), (.int .u8 0), (.int .u8 0), (.int .u8 0), (.int .u8 0), (.int .u8 0), (.int .u8 0), (.int .u8 0), (.int .u8 0), (.int .u8 0)])) .nil)) t68_10)
def t68_11 := b68_11
theorem u68_11 : vcK P t68_11 k e w = vcK P b68_11 k e w := rfl
abbrev b68_12 : X := (.cond (.t 11) (.seq (.seq (.reg [0, 17] (.c (.q 12 [] (.mv (.t 0))) (.c (.q 13 [] (.bin .leq (.c (.int .i64 0)) (.t 12))) (.c (.q 14 [] (.mv (.t 13))) (.c (.q 15 [(14, true)] (.mv (.t 0))) (.c (.q 16 [(14, true)] (.bin .lss (.t 15) (.c (.int .i64 100)))) (.c (.q 17 [] (.pick (.t 14) (.t 16) (.c (.bool false)))) .nil))))))) t68_1) t68_11) .skip)
def t68_12 := b68_12
theorem u68_12 : vcK P t68_12 k e w = vcK P b68_12 k e w := rfl
abbrev b68_13 : X := (.seq (.reg [4] (.c (.q 53 [] (.mv (.t 9))) (.c (.q 4 [] (.mv (.t 53))) .nil))) .ret)
def t68_13 := b68_13
theorem u68_13 : vcK P t68_13 k e w = vcK P b68_13 k e w := rfl
abbrev b68_14 : X := (.seq (.reg [9] (.c (.q 45 [] (.mv (.t 0))) (.c (.q 46 [] (.cvi .u64 (.t 45))) (.c (.q 47 [] (.mv (.t 1))) (.c (.q 48 [] (.mv (.t 0))) (.c (.q 49 [] (.bin .lss (.t 48) (.c (.int .i64 0)))) (.c (.e (some 50) [] (.call false 75 [(.c (.slice none 0 0)), (.t 46), (.t 47), (.t 49), (.c (.bool false))])) (.c (.q 44 [] (.mv (.t 50))) (.c (.q 51 [] (.ext 0 (.t 44))) (.c (.q 52 [] (.ext 1 (.t 44))) (.c (.q 8 [] (.mv (.t 51))) (.c (.q 9 [] (.mv (.t 52))) .nil)))))))))))) t68_13)
def t68_14 := b68_14
theorem u68_14 : vcK P t68_14 k e w = vcK P b68_14 k e w := rfl
abbrev b68_15 : X := (.seq (.seq (.reg [0, 1, 11] (.c (.q 10 [] (.mv (.t 1))) (.c (.q 11 [] (.bin .eql (.t 10) (.c (.int .i64 10)))) .nil))) t68_12) t68_14)
def t68_15 := b68_15
theorem u68_15 : vcK P t68_15 k e w = vcK P b68_15 k e w := rfl
abbrev b68_0 : X := (.seq (.reg [0, 1] (.c (.q 4 [] (.mv (.s []))) .nil)) t68_15)
def x_xinternal_strconv_FormatInt := b68_0
theorem u68_0 : vcK P x_xinternal_strconv_FormatInt k e w = vcK P b68_0 k e w := rfl
def r_xinternal_strconv_FormatInt : List XO := [(.mv (.t 4))]
theorem c_xinternal_strconv_FormatInt : convF Tryd.prog [27, 28, 29, 30, 32, 36, 40, 45, 46, 47, 50, 51, 52, 61, 62, 98] Tryd.f68 [([0, 1], []), ([0, 1, 11], []), ([0, 17], []), ([4], []), ([0, 5], []), ([0, 5, 6], []), ([0, 5, 6, 23], []), ([0, 5, 6], []), ([0, 5, 6, 7], []), ([0, 5, 7], []), ([5, 7, 34], []), ([5, 7], []), ([4], []), ([4], []), ([9], []), ([4], [])] = some (x_xinternal_strconv_FormatInt, r_xinternal_strconv_FormatInt) := by kernel_rfl
def us_xinternal_strconv_FormatInt :=  (aI (aI (aI (aI @u68_0 @u68_1) (aI @u68_2 @u68_3)) (aI (aI @u68_4 @u68_5) (aI @u68_6 @u68_7))) (aI (aI (aI @u68_8 @u68_9) (aI @u68_10 @u68_11)) (aI (aI @u68_12 @u68_13) (aI @u68_14 @u68_15))))
abbrev b59_1 : X := (.seq (.reg [2] (.c (.q 3 [] (.mv (.t 0))) (.c (.e (some 4) [] (.call false 68 [(.t 3), (.c (.int .i64 10))])) (.c (.q 2 [] (.mv (.t 4))) .nil)))) .ret)
def t59_1 := b59_1
theorem u59_1 : vcK P t59_1 k e w = vcK P b59_1 k e w := rfl
abbrev b59_0 : X := (.seq (.reg [0] (.c (.q 2 [] (.mv (.s []))) .nil)) t59_1)
def x_xinternal_strconv_Itoa := b59_0
theorem u59_0 : vcK P x_xinternal_strconv_Itoa k e w = vcK P b59_0 k e w := rfl
def r_xinternal_strconv_Itoa : List XO := [(.mv (.t 2))]
theorem c_xinternal_strconv_Itoa : convF Tryd.prog [27, 28, 29, 30, 32, 36, 40, 45, 46, 47, 50, 51, 52, 61, 62, 98] Tryd.f59 [([0], []), ([2], [])] = some (x_xinternal_strconv_Itoa, r_xinternal_strconv_Itoa) := by kernel_rfl
def us_xinternal_strconv_Itoa :=  (aI @u59_0 @u59_1)
abbrev b42_1 : X := (.seq (.reg [2] (.c (.q 3 [] (.mv (.t 0))) (.c (.e (some 4) [] (.call false 59 [(.t 3)])) (.c (.q 2 [] (.mv (.t 4))) .nil)))) .ret)
def t42_1 := b42_1
theorem u42_1 : vcK P t42_1 k e w = vcK P b42_1 k e w := rfl
abbrev b42_0 : X := (.seq (.reg [0] (.c (.q 2 [] (.mv (.s []))) .nil)) t42_1)
def x_xstrconv_Itoa := b42_0
theorem u42_0 : vcK P x_xstrconv_Itoa k e w = vcK P b42_0 k e w := rfl
def r_xstrconv_Itoa : List XO := [(.mv (.t 2))]
theorem c_xstrconv_Itoa : convF Tryd.prog [27, 28, 29, 30, 32, 36, 40, 45, 46, 47, 50, 51, 52, 61, 62, 98] Tryd.f42 [([0], []), ([2], [])] = some (x_xstrconv_Itoa, r_xstrconv_Itoa) := by kernel_rfl
def us_xstrconv_Itoa :=  (aI @u42_0 @u42_1)
abbrev b25_1 : X := (.seq (.reg [2] (.c (.q 3 [] (.mv (.t 0))) (.c (.e (some 4) [] (.call false 42 [(.t 3)])) (.c (.q 2 [] (.mv (.t 4))) .nil)))) .ret)
def t25_1 := b25_1
theorem u25_1 : vcK P t25_1 k e w = vcK P b25_1 k e w := rfl
abbrev b25_0 : X := (.seq (.reg [0] (.c (.q 2 [] (.mv (.s []))) .nil)) t25_1)
def x_idecimal := b25_0
theorem u25_0 : vcK P x_idecimal k e w = vcK P b25_0 k e w := rfl
def r_idecimal : List XO := [(.mv (.t 2))]
theorem c_idecimal : convF Tryd.prog [27, 28, 29, 30, 32, 36, 40, 45, 46, 47, 50, 51, 52, 61, 62, 98] Tryd.f25 [([0], []), ([2], [])] = some (x_idecimal, r_idecimal) := by kernel_rfl
def us_idecimal :=  (aI @u25_0 @u25_1)
abbrev b44_1 : X := (.cond (.t 4) (.seq (.reg [2] (.c (.q 5 [] (.mv (.t 0))) (.c (.q 6 [] (.bin .add (.c (.int .i64 48)) (.t 5))) (.c (.q 7 [] (.cvi .u8 (.t 6))) (.c (.e (some 8) [] (.bsl 5 1 [(.t 7)])) (.c (.e (some 9) [] (.b2s (.t 8))) (.c (.q 2 [] (.mv (.t 9))) .nil))))))) .ret) .skip)
def t44_1 := b44_1
theorem u44_1 : vcK P t44_1 k e w = vcK P b44_1 k e w := rfl
abbrev b44_2 : X := (.seq (.drw [2] (.c (.q 10 [] (.mv (.t 0))) (.c (.q 11 [] (.bin .quo (.t 10) (.c (.int .i64 10)))) (.c (.q 13 [] (.mv (.t 0))) (.c (.q 14 [] (.bin .rem (.t 13) (.c (.int .i64 10)))) (.c (.q 15 [] (.bin .add (.c (.int .i64 48)) (.t 14))) (.c (.q 16 [] (.cvi .u8 (.t 15))) (.alt (.c (.e (some 12) [] (.call false 44 [(.t 11)])) (.c (.e (some 17) [] (.bsl 5 1 [(.t 16)])) (.c (.e (some 18) [] (.b2s (.t 17))) (.c (.q 19 [] (.bin .add (.t 12) (.t 18))) (.c (.q 2 [] (.mv (.t 19))) .nil))))) (.c (.e (some 17) [] (.bsl 5 1 [(.t 16)])) (.alt (.c (.e (some 12) [] (.call false 44 [(.t 11)])) (.c (.e (some 18) [] (.b2s (.t 17))) (.c (.q 19 [] (.bin .add (.t 12) (.t 18))) (.c (.q 2 [] (.mv (.t 19))) .nil)))) (.c (.e (some 18) [] (.b2s (.t 17))) (.c (.e (some 12) [] (.call false 44 [(.t 11)])) (.c (.q 19 [] (.bin .add (.t 12) (.t 18))) (.c (.q 2 [] (.mv (.t 19))) .nil)))))))))))))) .ret)
def t44_2 := b44_2
theorem u44_2 : vcK P t44_2 k e w = vcK P b44_2 k e w := rfl
abbrev b44_3 : X := (.seq (.seq (.reg [0, 4] (.c (.q 3 [] (.mv (.t 0))) (.c (.q 4 [] (.bin .lss (.t 3) (.c (.int .i64 10)))) .nil))) t44_1) t44_2)
def t44_3 := b44_3
theorem u44_3 : vcK P t44_3 k e w = vcK P b44_3 k e w := rfl
abbrev b44_0 : X := (.seq (.reg [0] (.c (.q 2 [] (.mv (.s []))) .nil)) t44_3)
def x_sl1Num := b44_0
theorem u44_0 : vcK P x_sl1Num k e w = vcK P b44_0 k e w := rfl
def r_sl1Num : List XO := [(.mv (.t 2))]
theorem c_sl1Num : convF Tryd.prog [27, 28, 29, 30, 32, 36, 40, 45, 46, 47, 50, 51, 52, 61, 62, 98] Tryd.f44 [([0], []), ([0, 4], []), ([2], []), ([2], [])] = some (x_sl1Num, r_sl1Num) := by kernel_rfl
def us_sl1Num :=  (aI (aI @u44_0 @u44_1) (aI @u44_2 @u44_3))
abbrev b12_1 : X := (.cond (.t 8) (.seq (.reg [2, 3] (.c (.q 2 [] (.mv (.s []))) (.c (.q 3 [] (.mv (.c (.bool false)))) .nil))) .ret) .skip)
def t12_1 := b12_1
theorem u12_1 : vcK P t12_1 k e w = vcK P b12_1 k e w := rfl
abbrev b12_2 : X := (.cond (.t 19) (.seq (.reg [2, 3] (.c (.q 20 [] (.mv (.t 0))) (.c (.q 2 [] (.mv (.t 20))) (.c (.q 3 [] (.mv (.c (.bool true)))) .nil)))) .ret) .skip)
def t12_2 := b12_2
theorem u12_2 : vcK P t12_2 k e w = vcK P b12_2 k e w := rfl
abbrev b12_3 : X := (.seq (.reg [2, 3] (.c (.q 21 [] (.mv (.t 4))) (.c (.q 22 [] (.bin .add (.s [40]) (.t 21))) (.c (.q 23 [] (.bin .add (.t 22) (.s [41]))) (.c (.q 24 [] (.mv (.t 5))) (.c (.e (some 25) [] (.call false 25 [(.t 24)])) (.c (.q 26 [] (.bin .add (.t 23) (.t 25))) (.c (.q 2 [] (.mv (.t 26))) (.c (.q 3 [] (.mv (.c (.bool true)))) .nil))))))))) .ret)
def t12_3 := b12_3
theorem u12_3 : vcK P t12_3 k e w = vcK P b12_3 k e w := rfl
abbrev b12_4 : X := (.seq (.seq (.reg [0, 4, 5, 19] (.c (.q 14 [] (.mv (.t 5))) (.c (.q 15 [] (.bin .lss (.t 14) (.c (.int .i64 2)))) (.c (.q 16 [] (.mv (.t 15))) (.c (.q 17 [(16, false)] (.mv (.t 5))) (.c (.q 18 [(16, false)] (.bin .gtr (.t 17) (.c (.int .i64 9)))) (.c (.q 19 [] (.pick (.t 16) (.c (.bool true)) (.t 18))) .nil))))))) t12_2) t12_3)
def t12_4 := b12_4
theorem u12_4 : vcK P t12_4 k e w = vcK P b12_4 k e w := rfl
abbrev b12_5 : X := (.seq (.reg [0, 4, 5] (.c (.q 10 [] (.mv (.t 0))) (.c (.e (some 11) [] (.call false 24 [(.t 10)])) (.c (.q 9 [] (.mv (.t 11))) (.c (.q 12 [] (.ext 0 (.t 9))) (.c (.q 13 [] (.ext 1 (.t 9))) (.c (.q 4 [] (.mv (.t 12))) (.c (.q 5 [] (.mv (.t 13))) .nil)))))))) t12_4)
def t12_5 := b12_5
theorem u12_5 : vcK P t12_5 k e w = vcK P b12_5 k e w := rfl
abbrev b12_6 : X := (.seq (.seq (.reg [0, 8] (.c (.q 6 [] (.mv (.t 0))) (.c (.e (some 7) [] (.call false 20 [(.t 6)])) (.c (.q 8 [] (.not (.t 7))) .nil)))) t12_1) t12_5)
def t12_6 := b12_6
theorem u12_6 : vcK P t12_6 k e w = vcK P b12_6 k e w := rfl
abbrev b12_0 : X := (.seq (.reg [0] (.c (.q 2 [] (.mv (.s []))) (.c (.q 3 [] (.mv (.c (.bool false)))) .nil))) t12_6)
def x_iPrintParts := b12_0
theorem u12_0 : vcK P x_iPrintParts k e w = vcK P b12_0 k e w := rfl
def r_iPrintParts : List XO := [(.mv (.t 2)), (.mv (.t 3))]
theorem c_iPrintParts : convF Tryd.prog [27, 28, 29, 30, 32, 36, 40, 45, 46, 47, 50, 51, 52, 61, 62, 98] Tryd.f12 [([0], []), ([0, 8], []), ([2, 3], []), ([0, 4, 5], []), ([0, 4, 5, 19], []), ([2, 3], []), ([2, 3], [])] = some (x_iPrintParts, r_iPrintParts) := by kernel_rfl
def us_iPrintParts :=  (aI (aI @u12_0 (aI @u12_1 @u12_2)) (aI (aI @u12_3 @u12_4) (aI @u12_5 @u12_6)))
abbrev b26_1 : X := (.cond (.t 17) (.seq (.reg [2] (.c (.q 18 [] (.mv (.t 3))) (.c (.q 19 [] (.bin .add (.s [40]) (.t 18))) (.c (.q 20 [] (.bin .add (.t 19) (.s [41]))) (.c (.q 21 [] (.mv (.t 4))) (.c (.e (some 22) [] (.call false 44 [(.t 21)])) (.c (.q 23 [] (.bin .add (.t 20) (.t 22))) (.c (.q 2 [] (.mv (.t 23))) .nil)))))))) .ret) .skip)
def t26_1 := b26_1
theorem u26_1 : vcK P t26_1 k e w = vcK P b26_1 k e w := rfl
abbrev b26_2 : X := (.seq (.reg [2] (.c (.q 24 [] (.mv (.t 0))) (.c (.q 2 [] (.mv (.t 24))) .nil))) .ret)
def t26_2 := b26_2
theorem u26_2 : vcK P t26_2 k e w = vcK P b26_2 k e w := rfl
abbrev b26_3 : X := (.seq (.seq (.reg [0, 3, 4, 17] (.c (.q 12 [] (.mv (.t 4))) (.c (.q 13 [] (.bin .geq (.t 12) (.c (.int .i64 2)))) (.c (.q 14 [] (.mv (.t 13))) (.c (.q 15 [(14, true)] (.mv (.t 4))) (.c (.q 16 [(14, true)] (.bin .leq (.t 15) (.c (.int .i64 9)))) (.c (.q 17 [] (.pick (.t 14) (.t 16) (.c (.bool false)))) .nil))))))) t26_1) t26_2)
def t26_3 := b26_3
theorem u26_3 : vcK P t26_3 k e w = vcK P b26_3 k e w := rfl
abbrev b26_4 : X := (.seq (.reg [0, 3, 4] (.c (.q 7 [] (.mv (.t 0))) (.c (.e (some 8) [] (.call false 43 [(.t 7)])) (.c (.q 6 [] (.mv (.t 8))) (.c (.q 9 [] (.ext 0 (.t 6))) (.c (.q 10 [] (.ext 1 (.t 6))) (.c (.q 11 [] (.ext 2 (.t 6))) (.c (.q 3 [] (.mv (.t 9))) (.c (.q 4 [] (.mv (.t 10))) (.c (.q 5 [] (.mv (.t 11))) .nil)))))))))) t26_3)
def t26_4 := b26_4
theorem u26_4 : vcK P t26_4 k e w = vcK P b26_4 k e w := rfl
abbrev b26_0 : X := (.seq (.reg [0] (.c (.q 2 [] (.mv (.s []))) .nil)) t26_4)
def x_sl10Print := b26_0
theorem u26_0 : vcK P x_sl10Print k e w = vcK P b26_0 k e w := rfl
def r_sl10Print : List XO := [(.mv (.t 2))]
theorem c_sl10Print : convF Tryd.prog [27, 28, 29, 30, 32, 36, 40, 45, 46, 47, 50, 51, 52, 61, 62, 98] Tryd.f26 [([0], []), ([0, 3, 4], []), ([0, 3, 4, 17], []), ([2], []), ([2], [])] = some (x_sl10Print, r_sl10Print) := by kernel_rfl
def us_sl10Print :=  (aI (aI @u26_0 @u26_1) (aI @u26_2 (aI @u26_3 @u26_4)))
abbrev b13_1 : X := (.cond (.t 6) (.seq (.reg [2, 3] (.c (.q 2 [] (.mv (.s []))) (.c (.q 3 [] (.mv (.c (.bool false)))) .nil))) .ret) .skip)
def t13_1 := b13_1
theorem u13_1 : vcK P t13_1 k e w = vcK P b13_1 k e w := rfl
abbrev b13_2 : X := (.seq (.reg [2, 3] (.c (.q 7 [] (.mv (.t 0))) (.c (.e (some 8) [] (.call false 26 [(.t 7)])) (.c (.q 2 [] (.mv (.t 8))) (.c (.q 3 [] (.mv (.c (.bool true)))) .nil))))) .ret)
def t13_2 := b13_2
theorem u13_2 : vcK P t13_2 k e w = vcK P b13_2 k e w := rfl
abbrev b13_3 : X := (.seq (.seq (.reg [0, 6] (.c (.q 4 [] (.mv (.t 0))) (.c (.e (some 5) [] (.call false 22 [(.t 4)])) (.c (.q 6 [] (.not (.t 5))) .nil)))) t13_1) t13_2)
def t13_3 := b13_3
theorem u13_3 : vcK P t13_3 k e w = vcK P b13_3 k e w := rfl
abbrev b13_0 : X := (.seq (.reg [0] (.c (.q 2 [] (.mv (.s []))) (.c (.q 3 [] (.mv (.c (.bool false)))) .nil))) t13_3)
def x_sPrintParts := b13_0
theorem u13_0 : vcK P x_sPrintParts k e w = vcK P b13_0 k e w := rfl
def r_sPrintParts : List XO := [(.mv (.t 2)), (.mv (.t 3))]
theorem c_sPrintParts : convF Tryd.prog [27, 28, 29, 30, 32, 36, 40, 45, 46, 47, 50, 51, 52, 61, 62, 98] Tryd.f13 [([0], []), ([0, 6], []), ([2, 3], []), ([2, 3], [])] = some (x_sPrintParts, r_sPrintParts) := by kernel_rfl
def us_sPrintParts :=  (aI (aI @u13_0 @u13_1) (aI @u13_2 @u13_3))
end

theorem dig_sub : ∀ n < 10, (([48, 49, 50, 51, 52, 53, 54, 55, 56, 57, 97, 98, 99, 100, 101, 102, 103, 104, 105, 106, 107, 108, 109, 110, 111, 112, 113, 114, 115, 116, 117, 118, 119, 120, 121, 122] : List UInt8).take (n + 1)).drop n = [UInt8.ofNat (48 + n)] := by decide
set_option maxRecDepth 100000 in
theorem small_ok (n : Nat) (hn : n ≤ 9) (w : World) : Fn 72 [.int .i64 n] w (fun r _ => r = S [UInt8.ofNat (48 + n)]) := by
  (refine callsV_of mix Tryd.func72 c_xinternal_strconv_small ?_; simp only [↓vsd, vsn, gW, qd, qv, ev, pick, argE, zipE, ne_eq, eq_self, forall_const, implies_true, if_true, if_false, reduceIte, reduceCtorEq, Nat.reduceEqDiff, Nat.reduceAdd, Nat.reduceLT, ↓us_xinternal_strconv_small, r_xinternal_strconv_small])
  refine ⟨fun _ => ⟨inR_i64 (by omega), ⟨by omega, by omega, by omega⟩, Ext.refl _, ?_⟩, fun h => by omega⟩
  rw [dig_sub n (by omega)]
theorem FormatInt_ok (n : Nat) (hn : n ≤ 9) (w : World) : Fn 68 [.int .i64 n, .int .i64 10] w (fun r _ => r = S [UInt8.ofNat (48 + n)]) := by
  (refine callsV_of mix Tryd.func68 c_xinternal_strconv_FormatInt ?_; simp only [↓vsd, vsn, gW, qd, qv, ev, pick, argE, zipE, ne_eq, eq_self, forall_const, implies_true, if_true, if_false, reduceIte, reduceCtorEq, Nat.reduceEqDiff, Nat.reduceAdd, Nat.reduceLT, ↓us_xinternal_strconv_FormatInt, r_xinternal_strconv_FormatInt])
  refine ⟨fun _ => m_call (small_ok n hn _) ?_, fun h => absurd ⟨by omega, by omega⟩ h⟩
  rintro _ w1 hx1 rfl
  simp only [↓vsd, vsn, gW, qd, qv, ev, pick, argE, zipE, ne_eq, eq_self, forall_const, implies_true, if_true, if_false, reduceIte, reduceCtorEq, Nat.reduceEqDiff, Nat.reduceAdd, Nat.reduceLT, ↓us_xinternal_strconv_FormatInt, r_xinternal_strconv_FormatInt]
  exact hx1
theorem iItoa_ok (n : Nat) (hn : n ≤ 9) (w : World) : Fn 59 [.int .i64 n] w (fun r _ => r = S [UInt8.ofNat (48 + n)]) := by
  (refine callsV_of mix Tryd.func59 c_xinternal_strconv_Itoa ?_; simp only [↓vsd, vsn, gW, qd, qv, ev, pick, argE, zipE, ne_eq, eq_self, forall_const, implies_true, if_true, if_false, reduceIte, reduceCtorEq, Nat.reduceEqDiff, Nat.reduceAdd, Nat.reduceLT, ↓us_xinternal_strconv_Itoa, r_xinternal_strconv_Itoa])
  refine m_call (FormatInt_ok n hn _) ?_
  rintro _ w1 hx1 rfl
  simp only [↓vsd, vsn, gW, qd, qv, ev, pick, argE, zipE, ne_eq, eq_self, forall_const, implies_true, if_true, if_false, reduceIte, reduceCtorEq, Nat.reduceEqDiff, Nat.reduceAdd, Nat.reduceLT, ↓us_xinternal_strconv_Itoa, r_xinternal_strconv_Itoa]
  exact hx1
theorem Itoa_ok (n : Nat) (hn : n ≤ 9) (w : World) : Fn 42 [.int .i64 n] w (fun r _ => r = S [UInt8.ofNat (48 + n)]) := by
  (refine callsV_of mix Tryd.func42 c_xstrconv_Itoa ?_; simp only [↓vsd, vsn, gW, qd, qv, ev, pick, argE, zipE, ne_eq, eq_self, forall_const, implies_true, if_true, if_false, reduceIte, reduceCtorEq, Nat.reduceEqDiff, Nat.reduceAdd, Nat.reduceLT, ↓us_xstrconv_Itoa, r_xstrconv_Itoa])
  refine m_call (iItoa_ok n hn _) ?_
  rintro _ w1 hx1 rfl
  simp only [↓vsd, vsn, gW, qd, qv, ev, pick, argE, zipE, ne_eq, eq_self, forall_const, implies_true, if_true, if_false, reduceIte, reduceCtorEq, Nat.reduceEqDiff, Nat.reduceAdd, Nat.reduceLT, ↓us_xstrconv_Itoa, r_xstrconv_Itoa]
  exact hx1
theorem idecimal_ok (n : Nat) (hn : n ≤ 9) (w : World) : Fn 25 [.int .i64 n] w (fun r _ => r = S [UInt8.ofNat (48 + n)]) := by
  (refine callsV_of mix Tryd.func25 c_idecimal ?_; simp only [↓vsd, vsn, gW, qd, qv, ev, pick, argE, zipE, ne_eq, eq_self, forall_const, implies_true, if_true, if_false, reduceIte, reduceCtorEq, Nat.reduceEqDiff, Nat.reduceAdd, Nat.reduceLT, ↓us_idecimal, r_idecimal])
  refine m_call (Itoa_ok n hn _) ?_
  rintro _ w1 hx1 rfl
  simp only [↓vsd, vsn, gW, qd, qv, ev, pick, argE, zipE, ne_eq, eq_self, forall_const, implies_true, if_true, if_false, reduceIte, reduceCtorEq, Nat.reduceEqDiff, Nat.reduceAdd, Nat.reduceLT, ↓us_idecimal, r_idecimal]
  exact hx1
theorem u8_nat4 {n : Nat} (h : n < 256) : (UInt8.ofNat n).toNat = n := by simp [UInt8.toNat_ofNat']; omega
theorem sl1Num_digp (n : Nat) (hn : n < 10) (w : World) : Fn 44 [.int .i64 n] w (fun r _ => r = S [UInt8.ofNat (48 + n)]) := by
  (refine callsV_of mix Tryd.func44 c_sl1Num ?_; simp only [↓vsd, vsn, gW, qd, qv, ev, pick, argE, zipE, ne_eq, eq_self, forall_const, implies_true, if_true, if_false, reduceIte, reduceCtorEq, Nat.reduceEqDiff, Nat.reduceAdd, Nat.reduceLT, ↓us_sl1Num, r_sl1Num])
  have hI : (n : Int) < 10 := by omega
  have e : (48 : Int) + (n : Nat) = ((UInt8.ofNat (48 + n)).toNat : Nat) := by rw [u8_nat4 (by omega)]; omega
  have hb := (UInt8.ofNat (48 + n)).toNat_lt
  have hI' : ¬ 10 ≤ (n : Int) := by omega
  simp only [↓vsd, vsn, gW, qd, qv, ev, pick, argE, zipE, ne_eq, eq_self, forall_const, implies_true, if_true, if_false, reduceIte, reduceCtorEq, Nat.reduceEqDiff, Nat.reduceAdd, Nat.reduceLT, ↓us_sl1Num, r_sl1Num, hI, hI', e]
  refine ⟨inR_u8 (by omega), m_bsl (one_el rfl) ?_⟩
  rintro b w1 hb1 hblk hx1 hs1
  simp only [↓vsd, vsn, gW, qd, qv, ev, pick, argE, zipE, ne_eq, eq_self, forall_const, implies_true, if_true, if_false, reduceIte, reduceCtorEq, Nat.reduceEqDiff, Nat.reduceAdd, Nat.reduceLT, ↓us_sl1Num, r_sl1Num]
  refine m_b2s (l := [UInt8.ofNat (48 + n)]) (Sq.one (f := fU) fU_len hblk rfl) ?_
  simp only [↓vsd, vsn, gW, qd, qv, ev, pick, argE, zipE, ne_eq, eq_self, forall_const, implies_true, if_true, if_false, reduceIte, reduceCtorEq, Nat.reduceEqDiff, Nat.reduceAdd, Nat.reduceLT, ↓us_sl1Num, r_sl1Num]
  exact hx1
/-- The printed parts of a touch whose least part has n leads. -/
def prtP (t : List UInt8) (n : Nat) : List UInt8 := if t.length / n < 2 ∨ 9 < t.length / n then t else [40] ++ t.take n ++ [41] ++ [UInt8.ofNat (48 + t.length / n)]
def prtV (t : List UInt8) (n : Nat) : Value := if IsTouch t then .tuple ⟨[S (prtP t n), .bool true]⟩ else .tuple ⟨[S [], .bool false]⟩
theorem iPrintParts_ok (t : List UInt8) (n : Nat) (hl : t.length ≤ 1000000) (h : IsTouch t → LeastP t n) (w : World) : Fn 12 [S t] w (fun r _ => r = prtV t n) := by
  (refine callsV_of mix Tryd.func12 c_iPrintParts ?_; simp only [↓vsd, vsn, gW, qd, qv, ev, pick, argE, zipE, ne_eq, eq_self, forall_const, implies_true, if_true, if_false, reduceIte, reduceCtorEq, Nat.reduceEqDiff, Nat.reduceAdd, Nat.reduceLT, ↓us_iPrintParts, r_iPrintParts])
  refine m_call (iGoodTouch_ok t (by omega) _) ?_
  rintro _ w1 hx1 rfl
  by_cases ht : IsTouch t
  · have htk : (t.take n).length ≤ t.length := by rw [List.length_take]; omega
    simp only [↓vsd, vsn, gW, qd, qv, ev, pick, argE, zipE, ne_eq, eq_self, forall_const, implies_true, if_true, if_false, reduceIte, reduceCtorEq, Nat.reduceEqDiff, Nat.reduceAdd, Nat.reduceLT, ↓us_iPrintParts, r_iPrintParts, ht]
    refine m_call (isplitParts_ok t n hl (h ht) _) ?_
    rintro _ w2 hx2 rfl
    generalize hc : t.length / n = c
    have hx12 := hx1.trans hx2
    by_cases h2 : c < 2 ∨ 9 < c
    · have e : prtP t n = t := by rw [prtP, hc, if_pos h2]
      by_cases h1 : c < 2
      · have hI : ((c : Nat) : Int) < 2 := by omega
        simp only [↓vsd, vsn, gW, qd, qv, ev, pick, argE, zipE, ne_eq, eq_self, forall_const, implies_true, if_true, if_false, reduceIte, reduceCtorEq, Nat.reduceEqDiff, Nat.reduceAdd, Nat.reduceLT, ↓us_iPrintParts, r_iPrintParts, hI]
        exact ⟨hx12, by rw [prtV, if_pos ht, e]⟩
      · have hI : ¬ ((c : Nat) : Int) < 2 := by omega
        have hJ : (9 : Int) < ((c : Nat) : Int) := by omega
        simp only [↓vsd, vsn, gW, qd, qv, ev, pick, argE, zipE, ne_eq, eq_self, forall_const, implies_true, if_true, if_false, reduceIte, reduceCtorEq, Nat.reduceEqDiff, Nat.reduceAdd, Nat.reduceLT, ↓us_iPrintParts, r_iPrintParts, hI, hJ]
        exact ⟨hx12, by rw [prtV, if_pos ht, e]⟩
    · have e : prtP t n = [40] ++ t.take n ++ [41] ++ [UInt8.ofNat (48 + c)] := by rw [prtP, hc, if_neg h2]
      have hI : ¬ ((c : Nat) : Int) < 2 := by omega
      have hJ : ¬ (9 : Int) < ((c : Nat) : Int) := by omega
      simp only [↓vsd, vsn, gW, qd, qv, ev, pick, argE, zipE, ne_eq, eq_self, forall_const, implies_true, if_true, if_false, reduceIte, reduceCtorEq, Nat.reduceEqDiff, Nat.reduceAdd, Nat.reduceLT, ↓us_iPrintParts, r_iPrintParts, hI, hJ]
      refine ⟨by omega, by omega, m_call (idecimal_ok c (by omega) _) ?_⟩
      rintro _ w3 hx3 rfl
      simp only [↓vsd, vsn, gW, qd, qv, ev, pick, argE, zipE, ne_eq, eq_self, forall_const, implies_true, if_true, if_false, reduceIte, reduceCtorEq, Nat.reduceEqDiff, Nat.reduceAdd, Nat.reduceLT, ↓us_iPrintParts, r_iPrintParts]
      refine ⟨by simp; omega, hx12.trans hx3, by rw [prtV, if_pos ht, e]; simp⟩
  · simp only [↓vsd, vsn, gW, qd, qv, ev, pick, argE, zipE, ne_eq, eq_self, forall_const, implies_true, if_true, if_false, reduceIte, reduceCtorEq, Nat.reduceEqDiff, Nat.reduceAdd, Nat.reduceLT, ↓us_iPrintParts, r_iPrintParts, ht]
    exact ⟨hx1, by rw [prtV, if_neg ht]⟩
theorem sl10Print_ok (t : List UInt8) (n : Nat) (hl : t.length ≤ 1000000) (ht : IsTouch t) (h : LeastP t n) (w : World) : Fn 26 [S t] w (fun r _ => r = S (prtP t n)) := by
  have htk : (t.take n).length ≤ t.length := by rw [List.length_take]; omega
  (refine callsV_of mix Tryd.func26 c_sl10Print ?_; simp only [↓vsd, vsn, gW, qd, qv, ev, pick, argE, zipE, ne_eq, eq_self, forall_const, implies_true, if_true, if_false, reduceIte, reduceCtorEq, Nat.reduceEqDiff, Nat.reduceAdd, Nat.reduceLT, ↓us_sl10Print, r_sl10Print])
  refine m_call (sSplitParts_ok t n hl (fun _ => h) _) ?_
  rintro _ w1 hx1 rfl
  rw [splV, if_pos ht]
  generalize hc : t.length / n = c
  simp only [↓vsd, vsn, gW, qd, qv, ev, pick, argE, zipE, ne_eq, eq_self, forall_const, implies_true, if_true, if_false, reduceIte, reduceCtorEq, Nat.reduceEqDiff, Nat.reduceAdd, Nat.reduceLT, ↓us_sl10Print, r_sl10Print]
  refine ⟨fun h29 => ?_, fun h29 => ⟨hx1, ?_⟩⟩
  · have e : prtP t n = [40] ++ t.take n ++ [41] ++ [UInt8.ofNat (48 + c)] := by rw [prtP, hc, if_neg (by omega)]
    refine ⟨by omega, by omega, m_call (sl1Num_digp c (by omega) _) ?_⟩
    rintro _ w3 hx3 rfl
    simp only [↓vsd, vsn, gW, qd, qv, ev, pick, argE, zipE, ne_eq, eq_self, forall_const, implies_true, if_true, if_false, reduceIte, reduceCtorEq, Nat.reduceEqDiff, Nat.reduceAdd, Nat.reduceLT, ↓us_sl10Print, r_sl10Print]
    refine ⟨by simp; omega, hx1.trans hx3, by rw [e]; simp⟩
  · rw [prtP, hc, if_pos (by omega)]
theorem sPrintParts_ok (t : List UInt8) (n : Nat) (hl : t.length ≤ 1000000) (h : IsTouch t → LeastP t n) (w : World) : Fn 13 [S t] w (fun r _ => r = prtV t n) := by
  (refine callsV_of mix Tryd.func13 c_sPrintParts ?_; simp only [↓vsd, vsn, gW, qd, qv, ev, pick, argE, zipE, ne_eq, eq_self, forall_const, implies_true, if_true, if_false, reduceIte, reduceCtorEq, Nat.reduceEqDiff, Nat.reduceAdd, Nat.reduceLT, ↓us_sPrintParts, r_sPrintParts])
  refine m_call (sl9Good_ok t (by omega) _) ?_
  rintro _ w1 hx1 rfl
  by_cases ht : IsTouch t
  · simp only [↓vsd, vsn, gW, qd, qv, ev, pick, argE, zipE, ne_eq, eq_self, forall_const, implies_true, if_true, if_false, reduceIte, reduceCtorEq, Nat.reduceEqDiff, Nat.reduceAdd, Nat.reduceLT, ↓us_sPrintParts, r_sPrintParts, ht]
    refine m_call (sl10Print_ok t n hl ht (h ht) _) ?_
    rintro _ w2 hx2 rfl
    simp only [↓vsd, vsn, gW, qd, qv, ev, pick, argE, zipE, ne_eq, eq_self, forall_const, implies_true, if_true, if_false, reduceIte, reduceCtorEq, Nat.reduceEqDiff, Nat.reduceAdd, Nat.reduceLT, ↓us_sPrintParts, r_sPrintParts]
    exact ⟨hx1.trans hx2, by rw [prtV, if_pos ht]⟩
  · simp only [↓vsd, vsn, gW, qd, qv, ev, pick, argE, zipE, ne_eq, eq_self, forall_const, implies_true, if_true, if_false, reduceIte, reduceCtorEq, Nat.reduceEqDiff, Nat.reduceAdd, Nat.reduceLT, ↓us_sPrintParts, r_sPrintParts, ht]
    exact ⟨hx1, by rw [prtV, if_neg ht]⟩
end Go.Proofs.YtnbnofmnbopknaaDoor
