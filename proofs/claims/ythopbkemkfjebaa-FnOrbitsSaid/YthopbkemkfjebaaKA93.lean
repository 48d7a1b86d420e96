/-
  Sorting rows and multiplying them from the left, of both sides.
  Conditions: none.
-/
import Derived.Test.YthopbkemkfjebaaKA53
import Derived.Test.YthopbkemkfjebaaKA90
set_option linter.unusedSimpArgs false
set_option linter.unusedVariables false
set_option linter.defProp false
namespace Go.Proofs.Ythopbkemkfjebaa
open Go Go.RowKit
section
variable (P : Program) (k : KT) (e : Env) (w : World)
abbrev b16_1 : X := (.cond (.t 6) (.seq (.reg [2, 3] (.c (.q 2 [] (.mv (.c (.slice none 0 0)))) (.c (.q 3 [] (.mv (.c (.bool false)))) .nil))) .ret) .skip)
def t16_1 := b16_1
theorem u16_1 : vcK P t16_1 k e w = vcK P b16_1 k e w := rfl
abbrev b16_2 : X := (.seq (.reg [2, 3] (.c (.q 7 [] (.mv (.t 0))) (.c (.e (some 8) [] (.call false 67 [(.t 7)])) (.c (.q 2 [] (.mv (.t 8))) (.c (.q 3 [] (.mv (.c (.bool true)))) .nil))))) .ret)
def t16_2 := b16_2
theorem u16_2 : vcK P t16_2 k e w = vcK P b16_2 k e w := rfl
abbrev b16_3 : X := (.seq (.seq (.reg [0, 6] (.c (.q 4 [] (.mv (.t 0))) (.c (.e (some 5) [] (.call false 64 [(.t 4)])) (.c (.q 6 [] (.not (.t 5))) .nil)))) t16_1) t16_2)
def t16_3 := b16_3
theorem u16_3 : vcK P t16_3 k e w = vcK P b16_3 k e w := rfl
abbrev b16_0 : X := (.seq (.reg [0] (.c (.q 2 [] (.mv (.c (.slice none 0 0)))) (.c (.q 3 [] (.mv (.c (.bool false)))) .nil))) t16_3)
def x_iSortRows := b16_0
theorem u16_0 : vcK P x_iSortRows k e w = vcK P b16_0 k e w := rfl
def r_iSortRows : List XO := [(.mv (.t 2)), (.mv (.t 3))]
theorem c_iSortRows : convF Try.prog [54, 55, 58, 69, 70, 71, 72, 73, 84, 89, 94, 95, 113, 114, 115, 130, 134, 143, 146, 161] Try.f16 [([0], []), ([0, 6], []), ([2, 3], []), ([2, 3], [])] = some (x_iSortRows, r_iSortRows) := by kernel_rfl
def us_iSortRows :=  (aI (aI @u16_0 @u16_1) (aI @u16_2 @u16_3))
abbrev b17_1 : X := (.cond (.t 6) (.seq (.reg [2, 3] (.c (.q 2 [] (.mv (.c (.slice none 0 0)))) (.c (.q 3 [] (.mv (.c (.bool false)))) .nil))) .ret) .skip)
def t17_1 := b17_1
theorem u17_1 : vcK P t17_1 k e w = vcK P b17_1 k e w := rfl
abbrev b17_2 : X := (.seq (.reg [2, 3] (.c (.q 7 [] (.mv (.t 0))) (.c (.e (some 8) [] (.call false 68 [(.t 7)])) (.c (.q 2 [] (.mv (.t 8))) (.c (.q 3 [] (.mv (.c (.bool true)))) .nil))))) .ret)
def t17_2 := b17_2
theorem u17_2 : vcK P t17_2 k e w = vcK P b17_2 k e w := rfl
abbrev b17_3 : X := (.seq (.seq (.reg [0, 6] (.c (.q 4 [] (.mv (.t 0))) (.c (.e (some 5) [] (.call false 60 [(.t 4)])) (.c (.q 6 [] (.not (.t 5))) .nil)))) t17_1) t17_2)
def t17_3 := b17_3
theorem u17_3 : vcK P t17_3 k e w = vcK P b17_3 k e w := rfl
abbrev b17_0 : X := (.seq (.reg [0] (.c (.q 2 [] (.mv (.c (.slice none 0 0)))) (.c (.q 3 [] (.mv (.c (.bool false)))) .nil))) t17_3)
def x_sSortRows := b17_0
theorem u17_0 : vcK P x_sSortRows k e w = vcK P b17_0 k e w := rfl
def r_sSortRows : List XO := [(.mv (.t 2)), (.mv (.t 3))]
theorem c_sSortRows : convF Try.prog [54, 55, 58, 69, 70, 71, 72, 73, 84, 89, 94, 95, 113, 114, 115, 130, 134, 143, 146, 161] Try.f17 [([0], []), ([0, 6], []), ([2, 3], []), ([2, 3], [])] = some (x_sSortRows, r_sSortRows) := by kernel_rfl
def us_sSortRows :=  (aI (aI @u17_0 @u17_1) (aI @u17_2 @u17_3))
abbrev b19_1 : X := (.cond (.t 15) (.seq (.reg [4, 5] (.c (.q 4 [] (.mv (.c (.slice none 0 0)))) (.c (.q 5 [] (.mv (.c (.bool false)))) .nil))) .ret) .skip)
def t19_1 := b19_1
theorem u19_1 : vcK P t19_1 k e w = vcK P b19_1 k e w := rfl
abbrev b19_2 : X := (.seq (.reg [4, 5] (.c (.q 16 [] (.mv (.t 0))) (.c (.q 17 [] (.mv (.t 1))) (.c (.e (some 18) [] (.call false 75 [(.t 16), (.t 17)])) (.c (.q 4 [] (.mv (.t 18))) (.c (.q 5 [] (.mv (.c (.bool true)))) .nil)))))) .ret)
def t19_2 := b19_2
theorem u19_2 : vcK P t19_2 k e w = vcK P b19_2 k e w := rfl
abbrev b19_3 : X := (.seq (.seq (.reg [0, 1, 15] (.c (.q 6 [] (.mv (.t 0))) (.c (.e (some 7) [] (.call false 74 [(.t 6)])) (.c (.q 8 [] (.not (.t 7))) (.c (.q 9 [] (.mv (.t 8))) (.c (.q 10 [(9, false)] (.mv (.t 0))) (.c (.q 11 [(9, false)] (.len (.t 10))) (.c (.q 12 [(9, false)] (.mv (.t 1))) (.c (.e (some 13) [(9, false)] (.call false 57 [(.t 11), (.t 12)])) (.c (.q 14 [(9, false)] (.not (.t 13))) (.c (.q 15 [] (.pick (.t 9) (.c (.bool true)) (.t 14))) .nil))))))))))) t19_1) t19_2)
def t19_3 := b19_3
theorem u19_3 : vcK P t19_3 k e w = vcK P b19_3 k e w := rfl
abbrev b19_0 : X := (.seq (.reg [0, 1] (.c (.q 4 [] (.mv (.c (.slice none 0 0)))) (.c (.q 5 [] (.mv (.c (.bool false)))) .nil))) t19_3)
def x_iLeftTimes := b19_0
theorem u19_0 : vcK P x_iLeftTimes k e w = vcK P b19_0 k e w := rfl
def r_iLeftTimes : List XO := [(.mv (.t 4)), (.mv (.t 5))]
theorem c_iLeftTimes : convF Try.prog [54, 55, 58, 69, 70, 71, 72, 73, 84, 89, 94, 95, 113, 114, 115, 130, 134, 143, 146, 161] Try.f19 [([0, 1], []), ([0, 1, 15], []), ([4, 5], []), ([4, 5], [])] = some (x_iLeftTimes, r_iLeftTimes) := by kernel_rfl
def us_iLeftTimes :=  (aI (aI @u19_0 @u19_1) (aI @u19_2 @u19_3))
abbrev b20_1 : X := (.cond (.t 27) (.seq (.reg [4, 5] (.c (.q 4 [] (.mv (.c (.slice none 0 0)))) (.c (.q 5 [] (.mv (.c (.bool false)))) .nil))) .ret) .skip)
def t20_1 := b20_1
theorem u20_1 : vcK P t20_1 k e w = vcK P b20_1 k e w := rfl
abbrev b20_2 : X := (.seq (.reg [4, 5] (.c (.q 28 [] (.mv (.t 0))) (.c (.q 29 [] (.mv (.t 1))) (.c (.e (some 30) [] (.call false 77 [(.t 28), (.t 29)])) (.c (.q 4 [] (.mv (.t 30))) (.c (.q 5 [] (.mv (.c (.bool true)))) .nil)))))) .ret)
def t20_2 := b20_2
theorem u20_2 : vcK P t20_2 k e w = vcK P b20_2 k e w := rfl
abbrev b20_3 : X := (.seq (.seq (.reg [0, 1, 27] (.c (.q 6 [] (.mv (.t 0))) (.c (.e (some 7) [] (.call false 76 [(.t 6)])) (.c (.q 8 [] (.not (.t 7))) (.c (.q 9 [] (.mv (.t 8))) (.c (.q 10 [(9, false)] (.mv (.t 1))) (.c (.e (some 11) [(9, false)] (.call false 60 [(.t 10)])) (.c (.q 12 [(9, false)] (.not (.t 11))) (.c (.q 13 [] (.pick (.t 9) (.c (.bool true)) (.t 12))) (.c (.q 14 [] (.mv (.t 13))) (.c (.q 15 [(14, false)] (.mv (.t 1))) (.c (.q 16 [(14, false)] (.lens (.t 15))) (.c (.q 17 [(14, false)] (.bin .gtr (.t 16) (.c (.int .i64 0)))) (.c (.q 18 [(14, false)] (.mv (.t 17))) (.c (.q 19 [(18, true), (14, false)] (.mv (.t 1))) (.c (.q 20 [(18, true), (14, false)] (.ia 1 (.t 19) (.c (.int .i64 0)))) (.c (.q 21 [(18, true), (14, false)] (.ld (.t 20))) (.c (.q 22 [(18, true), (14, false)] (.len (.t 21))) (.c (.q 23 [(18, true), (14, false)] (.mv (.t 0))) (.c (.q 24 [(18, true), (14, false)] (.len (.t 23))) (.c (.q 25 [(18, true), (14, false)] (.bin .neq (.t 22) (.t 24))) (.c (.q 26 [(14, false)] (.pick (.t 18) (.t 25) (.c (.bool false)))) (.c (.q 27 [] (.pick (.t 14) (.c (.bool true)) (.t 26))) .nil))))))))))))))))))))))) t20_1) t20_2)
def t20_3 := b20_3
theorem u20_3 : vcK P t20_3 k e w = vcK P b20_3 k e w := rfl
abbrev b20_0 : X := (.seq (.reg [0, 1] (.c (.q 4 [] (.mv (.c (.slice none 0 0)))) (.c (.q 5 [] (.mv (.c (.bool false)))) .nil))) t20_3)
def x_sLeftTimes := b20_0
theorem u20_0 : vcK P x_sLeftTimes k e w = vcK P b20_0 k e w := rfl
def r_sLeftTimes : List XO := [(.mv (.t 4)), (.mv (.t 5))]
theorem c_sLeftTimes : convF Try.prog [54, 55, 58, 69, 70, 71, 72, 73, 84, 89, 94, 95, 113, 114, 115, 130, 134, 143, 146, 161] Try.f20 [([0, 1], []), ([0, 1, 27], []), ([4, 5], []), ([4, 5], [])] = some (x_sLeftTimes, r_sLeftTimes) := by kernel_rfl
def us_sLeftTimes :=  (aI (aI @u20_0 @u20_1) (aI @u20_2 @u20_3))
abbrev b134_1 : X := (.reg [] (.c (.q 5 [] (.mv (.t 0))) (.c (.q 6 [] (.mv (.t 2))) (.c (.q 7 [] (.mv (.t 2))) (.c (.q 8 [] (.cvi .u64 (.t 7))) (.c (.e (some 9) [] (.call false 132 [(.t 8)])) (.c (.e (some 10) [] (.call false 178 [(.t 5), (.c (.int .i64 0)), (.t 6), (.t 9)])) .nil)))))))
def t134_1 := b134_1
theorem u134_1 : vcK P t134_1 k e w = vcK P b134_1 k e w := rfl
abbrev b134_0 : X := (.seq (.reg [0, 2] (.c (.q 3 [] (.mv (.t 0))) (.c (.q 4 [] (.lens (.t 3))) (.c (.q 2 [] (.mv (.t 4))) .nil)))) t134_1)
def x_xslices_Sort_string_string := b134_0
theorem u134_0 : vcK P x_xslices_Sort_string_string k e w = vcK P b134_0 k e w := rfl
def r_xslices_Sort_string_string : List XO := []
theorem c_xslices_Sort_string_string : convF Try.prog [54, 55, 58, 69, 70, 71, 72, 73, 84, 89, 94, 95, 113, 114, 115, 130, 134, 143, 146, 161] Try.f134 [([0, 2], []), ([], [])] = some (x_xslices_Sort_string_string, r_xslices_Sort_string_string) := by kernel_rfl
def us_xslices_Sort_string_string :=  (aI @u134_0 @u134_1)
abbrev b178_1 : X := (.cond (.t 23) (.seq (.reg [] (.c (.q 24 [] (.mv (.t 0))) (.c (.q 25 [] (.mv (.t 1))) (.c (.q 26 [] (.mv (.t 2))) (.c (.e (some 27) [] (.call false 197 [(.t 24), (.t 25), (.t 26)])) .nil))))) .ret) .skip)
def t178_1 := b178_1
theorem u178_1 : vcK P t178_1 k e w = vcK P b178_1 k e w := rfl
abbrev b178_2 : X := (.cond (.t 29) (.seq (.reg [] (.c (.q 30 [] (.mv (.t 0))) (.c (.q 31 [] (.mv (.t 1))) (.c (.q 32 [] (.mv (.t 2))) (.c (.e (some 33) [] (.call false 198 [(.t 30), (.t 31), (.t 32)])) .nil))))) .ret) .skip)
def t178_2 := b178_2
theorem u178_2 : vcK P t178_2 k e w = vcK P b178_2 k e w := rfl
abbrev b178_3 : X := (.reg [0, 1, 2, 3, 8, 9, 10] (.c (.q 40 [] (.mv (.t 3))) (.c (.q 41 [] (.bin .sub (.t 40) (.c (.int .i64 1)))) (.c (.q 3 [] (.mv (.t 41))) .nil))))
def t178_3 := b178_3
theorem u178_3 : vcK P t178_3 k e w = vcK P b178_3 k e w := rfl
abbrev b178_4 : X := (.cond (.t 35) (.seq (.reg [0, 1, 2, 3, 8, 9, 10] (.c (.q 36 [] (.mv (.t 0))) (.c (.q 37 [] (.mv (.t 1))) (.c (.q 38 [] (.mv (.t 2))) (.c (.e (some 39) [] (.call false 199 [(.t 36), (.t 37), (.t 38)])) .nil))))) t178_3) .skip)
def t178_4 := b178_4
theorem u178_4 : vcK P t178_4 k e w = vcK P b178_4 k e w := rfl
abbrev b178_5 : X := (.reg [0, 1, 2, 3, 8, 9, 10, 11, 12] (.c (.q 12 [] (.mv (.c (.int .i64 1)))) .nil))
def t178_5 := b178_5
theorem u178_5 : vcK P t178_5 k e w = vcK P b178_5 k e w := rfl
abbrev b178_6 : X := (.seq (.reg [0, 1, 2, 3, 8, 9, 10, 11] (.c (.q 55 [] (.mv (.t 2))) (.c (.q 56 [] (.bin .sub (.t 55) (.c (.int .i64 1)))) (.c (.q 57 [] (.mv (.t 11))) (.c (.q 58 [] (.mv (.t 1))) (.c (.q 59 [] (.bin .sub (.t 57) (.t 58))) (.c (.q 60 [] (.bin .sub (.t 56) (.t 59))) (.c (.q 11 [] (.mv (.t 60))) .nil)))))))) t178_5)
def t178_6 := b178_6
theorem u178_6 : vcK P t178_6 k e w = vcK P b178_6 k e w := rfl
abbrev b178_7 : X := (.cond (.t 50) (.seq (.reg [0, 1, 2, 3, 8, 9, 10, 11] (.c (.q 51 [] (.mv (.t 0))) (.c (.q 52 [] (.mv (.t 1))) (.c (.q 53 [] (.mv (.t 2))) (.c (.e (some 54) [] (.call false 201 [(.t 51), (.t 52), (.t 53)])) .nil))))) t178_6) .skip)
def t178_7 := b178_7
theorem u178_7 : vcK P t178_7 k e w = vcK P b178_7 k e w := rfl
abbrev b178_8 : X := (.cond (.t 72) .ret .skip)
def t178_8 := b178_8
theorem u178_8 : vcK P t178_8 k e w = vcK P b178_8 k e w := rfl
abbrev b178_9 : X := (.cond (.t 68) (.seq (.reg [0, 1, 2, 3, 8, 9, 10, 11, 72] (.c (.q 69 [] (.mv (.t 0))) (.c (.q 70 [] (.mv (.t 1))) (.c (.q 71 [] (.mv (.t 2))) (.c (.e (some 72) [] (.call false 202 [(.t 69), (.t 70), (.t 71)])) .nil))))) t178_8) .skip)
def t178_9 := b178_9
theorem u178_9 : vcK P t178_9 k e w = vcK P b178_9 k e w := rfl
abbrev b178_10 : X := (.seq (.reg [0, 1, 2, 3, 8, 9] (.c (.q 93 [] (.mv (.t 13))) (.c (.q 1 [] (.mv (.t 93))) .nil))) (.exit 1))
def t178_10 := b178_10
theorem u178_10 : vcK P t178_10 k e w = vcK P b178_10 k e w := rfl
abbrev b178_11 : X := (.cond (.t 87) (.seq (.reg [0, 2, 3, 8, 9, 13] (.c (.q 88 [] (.mv (.t 0))) (.c (.q 89 [] (.mv (.t 1))) (.c (.q 90 [] (.mv (.t 2))) (.c (.q 91 [] (.mv (.t 11))) (.c (.e (some 92) [] (.call false 204 [(.t 88), (.t 89), (.t 90), (.t 91)])) (.c (.q 13 [] (.mv (.t 92))) .nil))))))) t178_10) .skip)
def t178_11 := b178_11
theorem u178_11 : vcK P t178_11 k e w = vcK P b178_11 k e w := rfl
abbrev b178_12 : X := (.reg [0, 1, 2, 3, 8, 9] (.c (.q 122 [] (.mv (.t 14))) (.c (.q 123 [] (.bin .add (.t 122) (.c (.int .i64 1)))) (.c (.q 1 [] (.mv (.t 123))) .nil))))
def t178_12 := b178_12
theorem u178_12 : vcK P t178_12 k e w = vcK P b178_12 k e w := rfl
abbrev b178_13 : X := (.seq (.reg [0, 2, 3, 8, 9, 14] (.c (.q 117 [] (.mv (.t 0))) (.c (.q 118 [] (.mv (.t 1))) (.c (.q 119 [] (.mv (.t 14))) (.c (.q 120 [] (.mv (.t 3))) (.c (.e (some 121) [] (.call false 178 [(.t 117), (.t 118), (.t 119), (.t 120)])) .nil)))))) t178_12)
def t178_13 := b178_13
theorem u178_13 : vcK P t178_13 k e w = vcK P b178_13 k e w := rfl
abbrev b178_14 : X := (.reg [0, 1, 2, 3, 8, 9] (.c (.q 133 [] (.mv (.t 14))) (.c (.q 2 [] (.mv (.t 133))) .nil)))
def t178_14 := b178_14
theorem u178_14 : vcK P t178_14 k e w = vcK P b178_14 k e w := rfl
abbrev b178_15 : X := (.seq (.reg [0, 1, 3, 8, 9, 14] (.c (.q 127 [] (.mv (.t 0))) (.c (.q 128 [] (.mv (.t 14))) (.c (.q 129 [] (.bin .add (.t 128) (.c (.int .i64 1)))) (.c (.q 130 [] (.mv (.t 2))) (.c (.q 131 [] (.mv (.t 3))) (.c (.e (some 132) [] (.call false 178 [(.t 127), (.t 129), (.t 130), (.t 131)])) .nil))))))) t178_14)
def t178_15 := b178_15
theorem u178_15 : vcK P t178_15 k e w = vcK P b178_15 k e w := rfl
abbrev b178_16 : X := (.cond (.t 113) (.seq (.reg [0, 1, 2, 3, 8, 9, 14] (.c (.q 114 [] (.mv (.t 16))) (.c (.q 115 [] (.mv (.t 18))) (.c (.q 116 [] (.bin .geq (.t 114) (.t 115))) (.c (.q 8 [] (.mv (.t 116))) .nil))))) t178_13) (.seq (.reg [0, 1, 2, 3, 8, 9, 14] (.c (.q 124 [] (.mv (.t 17))) (.c (.q 125 [] (.mv (.t 18))) (.c (.q 126 [] (.bin .geq (.t 124) (.t 125))) (.c (.q 8 [] (.mv (.t 126))) .nil))))) t178_15))
def t178_16 := b178_16
theorem u178_16 : vcK P t178_16 k e w = vcK P b178_16 k e w := rfl
abbrev b178_17 : X := (.seq (.reg [0, 1, 2, 3, 9, 14, 16, 17, 18, 113] (.c (.q 111 [] (.mv (.t 16))) (.c (.q 112 [] (.mv (.t 17))) (.c (.q 113 [] (.bin .lss (.t 111) (.t 112))) .nil)))) t178_16)
def t178_17 := b178_17
theorem u178_17 : vcK P t178_17 k e w = vcK P b178_17 k e w := rfl
abbrev b178_18 : X := (.seq (.reg [0, 1, 2, 3, 9, 14, 16, 17, 18] (.c (.q 109 [] (.mv (.t 10))) (.c (.q 110 [] (.bin .quo (.t 109) (.c (.int .i64 8)))) (.c (.q 18 [] (.mv (.t 110))) .nil)))) t178_17)
def t178_18 := b178_18
theorem u178_18 : vcK P t178_18 k e w = vcK P b178_18 k e w := rfl
abbrev b178_19 : X := (.seq (.reg [0, 1, 2, 3, 9, 10, 14, 16, 17] (.c (.q 103 [] (.mv (.t 14))) (.c (.q 104 [] (.mv (.t 1))) (.c (.q 105 [] (.bin .sub (.t 103) (.t 104))) (.c (.q 106 [] (.mv (.t 2))) (.c (.q 107 [] (.mv (.t 14))) (.c (.q 108 [] (.bin .sub (.t 106) (.t 107))) (.c (.q 16 [] (.mv (.t 105))) (.c (.q 17 [] (.mv (.t 108))) .nil))))))))) t178_18)
def t178_19 := b178_19
theorem u178_19 : vcK P t178_19 k e w = vcK P b178_19 k e w := rfl
abbrev b178_20 : X := (.seq (.reg [0, 1, 2, 3, 9, 10, 14] (.c (.q 102 [] (.mv (.t 15))) (.c (.q 9 [] (.mv (.t 102))) .nil))) t178_19)
def t178_20 := b178_20
theorem u178_20 : vcK P t178_20 k e w = vcK P b178_20 k e w := rfl
abbrev b178_21 : X := (.seq (.reg [0, 1, 2, 3, 10, 14, 15] (.c (.q 95 [] (.mv (.t 0))) (.c (.q 96 [] (.mv (.t 1))) (.c (.q 97 [] (.mv (.t 2))) (.c (.q 98 [] (.mv (.t 11))) (.c (.e (some 99) [] (.call false 205 [(.t 95), (.t 96), (.t 97), (.t 98)])) (.c (.q 94 [] (.mv (.t 99))) (.c (.q 100 [] (.ext 0 (.t 94))) (.c (.q 101 [] (.ext 1 (.t 94))) (.c (.q 14 [] (.mv (.t 100))) (.c (.q 15 [] (.mv (.t 101))) .nil))))))))))) t178_20)
def t178_21 := b178_21
theorem u178_21 : vcK P t178_21 k e w = vcK P b178_21 k e w := rfl
abbrev b178_22 : X := (.seq (.seq (.drw [0, 1, 2, 3, 8, 9, 10, 11, 87] (.c (.q 73 [] (.mv (.t 1))) (.c (.q 74 [] (.bin .gtr (.t 73) (.c (.int .i64 0)))) (.c (.q 75 [] (.mv (.t 74))) (.c (.q 76 [(75, true)] (.mv (.t 0))) (.c (.q 77 [(75, true)] (.mv (.t 1))) (.c (.q 78 [(75, true)] (.bin .sub (.t 77) (.c (.int .i64 1)))) (.c (.q 79 [(75, true)] (.ia 1 (.t 76) (.t 78))) (.c (.q 80 [(75, true)] (.ld (.t 79))) (.c (.q 81 [(75, true)] (.mv (.t 0))) (.c (.q 82 [(75, true)] (.mv (.t 11))) (.c (.q 83 [(75, true)] (.ia 1 (.t 81) (.t 82))) (.c (.q 84 [(75, true)] (.ld (.t 83))) (.c (.e (some 85) [(75, true)] (.call false 203 [(.t 80), (.t 84)])) (.c (.q 86 [(75, true)] (.not (.t 85))) (.c (.q 87 [] (.pick (.t 75) (.t 86) (.c (.bool false)))) .nil)))))))))))))))) t178_11) t178_21)
def t178_22 := b178_22
theorem u178_22 : vcK P t178_22 k e w = vcK P b178_22 k e w := rfl
abbrev b178_23 : X := (.seq (.seq (.reg [0, 1, 2, 3, 8, 9, 10, 11, 68] (.c (.q 61 [] (.mv (.t 8))) (.c (.q 62 [] (.mv (.t 61))) (.c (.q 63 [(62, true)] (.mv (.t 9))) (.c (.q 64 [] (.pick (.t 62) (.t 63) (.c (.bool false)))) (.c (.q 65 [] (.mv (.t 64))) (.c (.q 66 [(65, true)] (.mv (.t 12))) (.c (.q 67 [(65, true)] (.bin .eql (.t 66) (.c (.int .i64 1)))) (.c (.q 68 [] (.pick (.t 65) (.t 67) (.c (.bool false)))) .nil))))))))) t178_9) t178_22)
def t178_23 := b178_23
theorem u178_23 : vcK P t178_23 k e w = vcK P b178_23 k e w := rfl
abbrev b178_24 : X := (.seq (.seq (.reg [0, 1, 2, 3, 8, 9, 10, 11, 12, 50] (.c (.q 49 [] (.mv (.t 12))) (.c (.q 50 [] (.bin .eql (.t 49) (.c (.int .i64 2)))) .nil))) t178_7) t178_23)
def t178_24 := b178_24
theorem u178_24 : vcK P t178_24 k e w = vcK P b178_24 k e w := rfl
abbrev b178_25 : X := (.seq (.reg [0, 1, 2, 3, 8, 9, 10, 11, 12] (.c (.q 43 [] (.mv (.t 0))) (.c (.q 44 [] (.mv (.t 1))) (.c (.q 45 [] (.mv (.t 2))) (.c (.e (some 46) [] (.call false 200 [(.t 43), (.t 44), (.t 45)])) (.c (.q 42 [] (.mv (.t 46))) (.c (.q 47 [] (.ext 0 (.t 42))) (.c (.q 48 [] (.ext 1 (.t 42))) (.c (.q 11 [] (.mv (.t 47))) (.c (.q 12 [] (.mv (.t 48))) .nil)))))))))) t178_24)
def t178_25 := b178_25
theorem u178_25 : vcK P t178_25 k e w = vcK P b178_25 k e w := rfl
abbrev b178_26 : X := (.seq (.seq (.reg [0, 1, 2, 3, 8, 9, 10, 35] (.c (.q 34 [] (.mv (.t 8))) (.c (.q 35 [] (.not (.t 34))) .nil))) t178_4) t178_25)
def t178_26 := b178_26
theorem u178_26 : vcK P t178_26 k e w = vcK P b178_26 k e w := rfl
abbrev b178_27 : X := (.seq (.seq (.reg [0, 1, 2, 3, 8, 9, 10, 29] (.c (.q 28 [] (.mv (.t 3))) (.c (.q 29 [] (.bin .eql (.t 28) (.c (.int .i64 0)))) .nil))) t178_2) t178_26)
def t178_27 := b178_27
theorem u178_27 : vcK P t178_27 k e w = vcK P b178_27 k e w := rfl
abbrev b178_28 : X := (.seq (.seq (.reg [0, 1, 2, 3, 8, 9, 10, 23] (.c (.q 22 [] (.mv (.t 10))) (.c (.q 23 [] (.bin .leq (.t 22) (.c (.int .i64 12)))) .nil))) t178_1) t178_27)
def t178_28 := b178_28
theorem u178_28 : vcK P t178_28 k e w = vcK P b178_28 k e w := rfl
abbrev b178_29 : X := (.blk 1 (.seq (.reg [0, 1, 2, 3, 8, 9, 10] (.c (.q 19 [] (.mv (.t 2))) (.c (.q 20 [] (.mv (.t 1))) (.c (.q 21 [] (.bin .sub (.t 19) (.t 20))) (.c (.q 10 [] (.mv (.t 21))) .nil))))) t178_28))
def t178_29 := b178_29
theorem u178_29 : vcK P t178_29 k e w = vcK P b178_29 k e w := rfl
abbrev b178_30 : X := (.blk 0 (.loop [1, 2, 3, 8, 9] [0] t178_29))
def t178_30 := b178_30
theorem u178_30 : vcK P t178_30 k e w = vcK P b178_30 k e w := rfl
abbrev b178_31 : X := (.seq (.reg [0, 1, 2, 3, 8, 9] (.c (.q 9 [] (.mv (.c (.bool true)))) .nil)) t178_30)
def t178_31 := b178_31
theorem u178_31 : vcK P t178_31 k e w = vcK P b178_31 k e w := rfl
abbrev b178_0 : X := (.seq (.reg [0, 1, 2, 3, 8] (.c (.q 8 [] (.mv (.c (.bool true)))) .nil)) t178_31)
def x_xslices_pdqsortOrdered_string := b178_0
theorem u178_0 : vcK P x_xslices_pdqsortOrdered_string k e w = vcK P b178_0 k e w := rfl
def r_xslices_pdqsortOrdered_string : List XO := []
theorem c_xslices_pdqsortOrdered_string : convF Try.prog [54, 55, 58, 69, 70, 71, 72, 73, 84, 89, 94, 95, 113, 114, 115, 130, 134, 143, 146, 161] Try.f178 [([0, 1, 2, 3, 8], []), ([0, 1, 2, 3, 8, 9], []), ([1, 2, 3, 8, 9], [0]), ([0, 1, 2, 3, 8, 9, 10], []), ([0, 1, 2, 3, 8, 9, 10, 23], []), ([], []), ([0, 1, 2, 3, 8, 9, 10, 29], []), ([], []), ([0, 1, 2, 3, 8, 9, 10, 35], []), ([0, 1, 2, 3, 8, 9, 10], []), ([0, 1, 2, 3, 8, 9, 10], []), ([0, 1, 2, 3, 8, 9, 10, 11, 12], []), ([0, 1, 2, 3, 8, 9, 10, 11, 12, 50], []), ([0, 1, 2, 3, 8, 9, 10, 11], []), ([0, 1, 2, 3, 8, 9, 10, 11], []), ([0, 1, 2, 3, 8, 9, 10, 11, 12], []), ([0, 1, 2, 3, 8, 9, 10, 11, 68], []), ([0, 1, 2, 3, 8, 9, 10, 11, 72], []), ([0, 1, 2, 3, 8, 9, 10, 11, 87], []), ([0, 2, 3, 8, 9, 13], []), ([0, 1, 2, 3, 8, 9], []), ([0, 1, 2, 3, 10, 14, 15], []), ([0, 1, 2, 3, 9, 10, 14], []), ([0, 1, 2, 3, 9, 10, 14, 16, 17], []), ([0, 1, 2, 3, 9, 14, 16, 17, 18], []), ([0, 1, 2, 3, 9, 14, 16, 17, 18, 113], []), ([0, 1, 2, 3, 8, 9, 14], []), ([0, 2, 3, 8, 9, 14], []), ([0, 1, 2, 3, 8, 9], []), ([0, 1, 2, 3, 8, 9, 14], []), ([0, 1, 3, 8, 9, 14], []), ([0, 1, 2, 3, 8, 9], [])] = some (x_xslices_pdqsortOrdered_string, r_xslices_pdqsortOrdered_string) := by kernel_rfl
def us_xslices_pdqsortOrdered_string :=  (aI (aI (aI (aI (aI @u178_0 @u178_1) (aI @u178_2 @u178_3)) (aI (aI @u178_4 @u178_5) (aI @u178_6 @u178_7))) (aI (aI (aI @u178_8 @u178_9) (aI @u178_10 @u178_11)) (aI (aI @u178_12 @u178_13) (aI @u178_14 @u178_15)))) (aI (aI (aI (aI @u178_16 @u178_17) (aI @u178_18 @u178_19)) (aI (aI @u178_20 @u178_21) (aI @u178_22 @u178_23))) (aI (aI (aI @u178_24 @u178_25) (aI @u178_26 @u178_27)) (aI (aI @u178_28 @u178_29) (aI @u178_30 @u178_31)))))
abbrev b197_1 : X := (.cond (.t 12) .skip (.exit 0))
def t197_1 := b197_1
theorem u197_1 : vcK P t197_1 k e w = vcK P b197_1 k e w := rfl
abbrev b197_2 : X := (.cond (.t 30) .skip (.exit 2))
def t197_2 := b197_2
theorem u197_2 : vcK P t197_2 k e w = vcK P b197_2 k e w := rfl
abbrev b197_3 : X := (.reg [0, 1, 2, 6, 7] (.c (.q 31 [] (.mv (.t 7))) (.c (.q 32 [] (.bin .sub (.t 31) (.c (.int .i64 1)))) (.c (.q 7 [] (.mv (.t 32))) .nil))))
def t197_3 := b197_3
theorem u197_3 : vcK P t197_3 k e w = vcK P b197_3 k e w := rfl
abbrev b197_4 : X := (.seq (.blk 3 (.drw [0, 1, 2, 6, 7] (.c (.q 33 [] (.mv (.t 0))) (.c (.q 34 [] (.mv (.t 7))) (.c (.q 35 [] (.mv (.t 0))) (.c (.q 36 [] (.mv (.t 7))) (.c (.q 37 [] (.bin .sub (.t 36) (.c (.int .i64 1)))) (.c (.q 38 [] (.mv (.t 0))) (.c (.q 39 [] (.mv (.t 7))) (.c (.q 40 [] (.bin .sub (.t 39) (.c (.int .i64 1)))) (.c (.q 41 [] (.ia 1 (.t 38) (.t 40))) (.c (.q 42 [] (.ld (.t 41))) (.c (.q 43 [] (.mv (.t 0))) (.c (.q 44 [] (.mv (.t 7))) (.c (.q 45 [] (.ia 1 (.t 43) (.t 44))) (.c (.q 46 [] (.ld (.t 45))) (.c (.q 47 [] (.ia 1 (.t 33) (.t 34))) (.c (.e none [] (.st 1 (.t 47) (.t 42))) (.c (.q 48 [] (.ia 1 (.t 35) (.t 37))) (.c (.e none [] (.st 1 (.t 48) (.t 46))) .nil)))))))))))))))))))) t197_3)
def t197_4 := b197_4
theorem u197_4 : vcK P t197_4 k e w = vcK P b197_4 k e w := rfl
abbrev b197_5 : X := (.seq (.seq (.drw [0, 1, 2, 6, 7, 30] (.c (.q 16 [] (.mv (.t 7))) (.c (.q 17 [] (.mv (.t 1))) (.c (.q 18 [] (.bin .gtr (.t 16) (.t 17))) (.c (.q 19 [] (.mv (.t 18))) (.c (.q 20 [(19, true)] (.mv (.t 0))) (.c (.q 21 [(19, true)] (.mv (.t 7))) (.c (.q 22 [(19, true)] (.ia 1 (.t 20) (.t 21))) (.c (.q 23 [(19, true)] (.ld (.t 22))) (.c (.q 24 [(19, true)] (.mv (.t 0))) (.c (.q 25 [(19, true)] (.mv (.t 7))) (.c (.q 26 [(19, true)] (.bin .sub (.t 25) (.c (.int .i64 1)))) (.c (.q 27 [(19, true)] (.ia 1 (.t 24) (.t 26))) (.c (.q 28 [(19, true)] (.ld (.t 27))) (.c (.e (some 29) [(19, true)] (.call false 203 [(.t 23), (.t 28)])) (.c (.q 30 [] (.pick (.t 19) (.t 29) (.c (.bool false)))) .nil)))))))))))))))) t197_2) t197_4)
def t197_5 := b197_5
theorem u197_5 : vcK P t197_5 k e w = vcK P b197_5 k e w := rfl
abbrev b197_6 : X := (.blk 2 (.loop [7] [0, 1, 2, 6] t197_5))
def t197_6 := b197_6
theorem u197_6 : vcK P t197_6 k e w = vcK P b197_6 k e w := rfl
abbrev b197_7 : X := (.reg [0, 1, 2, 6] (.c (.q 13 [] (.mv (.t 6))) (.c (.q 14 [] (.bin .add (.t 13) (.c (.int .i64 1)))) (.c (.q 6 [] (.mv (.t 14))) .nil))))
def t197_7 := b197_7
theorem u197_7 : vcK P t197_7 k e w = vcK P b197_7 k e w := rfl
abbrev b197_8 : X := (.seq (.blk 1 (.seq (.reg [0, 1, 2, 6, 7] (.c (.q 15 [] (.mv (.t 6))) (.c (.q 7 [] (.mv (.t 15))) .nil))) t197_6)) t197_7)
def t197_8 := b197_8
theorem u197_8 : vcK P t197_8 k e w = vcK P b197_8 k e w := rfl
abbrev b197_9 : X := (.seq (.seq (.reg [0, 1, 2, 6, 12] (.c (.q 10 [] (.mv (.t 6))) (.c (.q 11 [] (.mv (.t 2))) (.c (.q 12 [] (.bin .lss (.t 10) (.t 11))) .nil)))) t197_1) t197_8)
def t197_9 := b197_9
theorem u197_9 : vcK P t197_9 k e w = vcK P b197_9 k e w := rfl
abbrev b197_10 : X := (.blk 0 (.loop [6] [0, 1, 2] t197_9))
def t197_10 := b197_10
theorem u197_10 : vcK P t197_10 k e w = vcK P b197_10 k e w := rfl
abbrev b197_0 : X := (.seq (.reg [0, 1, 2, 6] (.c (.q 8 [] (.mv (.t 1))) (.c (.q 9 [] (.bin .add (.t 8) (.c (.int .i64 1)))) (.c (.q 6 [] (.mv (.t 9))) .nil)))) t197_10)
def x_xslices_insertionSortOrdered_string := b197_0
theorem u197_0 : vcK P x_xslices_insertionSortOrdered_string k e w = vcK P b197_0 k e w := rfl
def r_xslices_insertionSortOrdered_string : List XO := []
theorem c_xslices_insertionSortOrdered_string : convF Try.prog [54, 55, 58, 69, 70, 71, 72, 73, 84, 89, 94, 95, 113, 114, 115, 130, 134, 143, 146, 161] Try.f197 [([0, 1, 2, 6], []), ([6], [0, 1, 2]), ([0, 1, 2, 6, 12], []), ([0, 1, 2, 6, 7], []), ([7], [0, 1, 2, 6]), ([0, 1, 2, 6, 7, 30], []), ([0, 1, 2, 6, 7], []), ([0, 1, 2, 6, 7], []), ([0, 1, 2, 6], [])] = some (x_xslices_insertionSortOrdered_string, r_xslices_insertionSortOrdered_string) := by kernel_rfl
def us_xslices_insertionSortOrdered_string :=  (aI (aI (aI @u197_0 @u197_1) (aI @u197_2 (aI @u197_3 @u197_4))) (aI (aI @u197_5 (aI @u197_6 @u197_7)) (aI @u197_8 (aI @u197_9 @u197_10))))
abbrev b132_1 : X := (.seq (.reg [2] (.c (.q 6 [] (.mv (.t 0))) (.c (.e (some 7) [] (.call false 177 [(.t 6)])) (.c (.q 2 [] (.mv (.t 7))) .nil)))) .ret)
def t132_1 := b132_1
theorem u132_1 : vcK P t132_1 k e w = vcK P b132_1 k e w := rfl
abbrev b132_2 : X := (.seq (.cond (.c (.bool false)) (.seq (.reg [2] (.c (.q 3 [] (.mv (.t 0))) (.c (.q 4 [] (.cvi .u32 (.t 3))) (.c (.e (some 5) [] (.call false 176 [(.t 4)])) (.c (.q 2 [] (.mv (.t 5))) .nil))))) .ret) .skip) t132_1)
def t132_2 := b132_2
theorem u132_2 : vcK P t132_2 k e w = vcK P b132_2 k e w := rfl
abbrev b132_0 : X := (.seq (.reg [0] (.c (.q 2 [] (.mv (.c (.int .i64 0)))) .nil)) t132_2)
def x_xmath_bits_Len := b132_0
theorem u132_0 : vcK P x_xmath_bits_Len k e w = vcK P b132_0 k e w := rfl
def r_xmath_bits_Len : List XO := [(.mv (.t 2))]
theorem c_xmath_bits_Len : convF Try.prog [54, 55, 58, 69, 70, 71, 72, 73, 84, 89, 94, 95, 113, 114, 115, 130, 134, 143, 146, 161] Try.f132 [([0], []), ([2], []), ([2], [])] = some (x_xmath_bits_Len, r_xmath_bits_Len) := by kernel_rfl
def us_xmath_bits_Len :=  (aI @u132_0 (aI @u132_1 @u132_2))
abbrev b177_1 : X := (.reg [0, 2] (.c (.q 2 [] (.mv (.c (.int .i64 32)))) .nil))
def t177_1 := b177_1
theorem u177_1 : vcK P t177_1 k e w = vcK P b177_1 k e w := rfl
abbrev b177_2 : X := (.cond (.t 4) (.seq (.reg [0] (.c (.q 5 [] (.mv (.t 0))) (.c (.q 6 [] (.bin .shr (.t 5) (.c (.int .u64 32)))) (.c (.q 0 [] (.mv (.t 6))) .nil)))) t177_1) .skip)
def t177_2 := b177_2
theorem u177_2 : vcK P t177_2 k e w = vcK P b177_2 k e w := rfl
abbrev b177_3 : X := (.reg [0, 2] (.c (.q 11 [] (.mv (.t 2))) (.c (.q 12 [] (.bin .add (.t 11) (.c (.int .i64 16)))) (.c (.q 2 [] (.mv (.t 12))) .nil))))
def t177_3 := b177_3
theorem u177_3 : vcK P t177_3 k e w = vcK P b177_3 k e w := rfl
abbrev b177_4 : X := (.cond (.t 8) (.seq (.reg [0, 2] (.c (.q 9 [] (.mv (.t 0))) (.c (.q 10 [] (.bin .shr (.t 9) (.c (.int .u64 16)))) (.c (.q 0 [] (.mv (.t 10))) .nil)))) t177_3) .skip)
def t177_4 := b177_4
theorem u177_4 : vcK P t177_4 k e w = vcK P b177_4 k e w := rfl
abbrev b177_5 : X := (.reg [0, 2] (.c (.q 17 [] (.mv (.t 2))) (.c (.q 18 [] (.bin .add (.t 17) (.c (.int .i64 8)))) (.c (.q 2 [] (.mv (.t 18))) .nil))))
def t177_5 := b177_5
theorem u177_5 : vcK P t177_5 k e w = vcK P b177_5 k e w := rfl
abbrev b177_6 : X := (.cond (.t 14) (.seq (.reg [0, 2] (.c (.q 15 [] (.mv (.t 0))) (.c (.q 16 [] (.bin .shr (.t 15) (.c (.int .u64 8)))) (.c (.q 0 [] (.mv (.t 16))) .nil)))) t177_5) .skip)
def t177_6 := b177_6
theorem u177_6 : vcK P t177_6 k e w = vcK P b177_6 k e w := rfl
abbrev b177_7 : X := (.seq (.reg [2] (.c (.q 19 [] (.mv (.t 2))) (.c (.q 20 [] (.mv (.t 0))) (.c (.q 21 [] (.cvi .u8 (.t 20))) (.c (.q 22 [] (.idx (.s [0, 1, 2, 2, 3, 3, 3, 3, 4, 4, 4, 4, 4, 4, 4, 4, 5, 5, 5, 5, 5, 5, 5, 5, 5, 5, 5, 5, 5, 5, 5, 5, 6, 6, 6, 6, 6, 6, 6, 6, 6, 6, 6, 6, 6, 6, 6, 6, 6, 6, 6, 6, 6, 6, 6, 6, 6, 6, 6, 6, 6, 6, 6, 6, 7, 7, 7, 7, 7, 7, 7, 7, 7, 7, 7, 7, 7, 7, 7, 7, 7, 7, 7, 7, 7, 7, 7, 7, 7, 7, 7, 7, 7, 7, 7, 7, 7, 7, 7, 7, 7, 7, 7, 7, 7, 7, 7, 7, 7, 7, 7, 7, 7, 7, 7, 7, 7, 7, 7, 7, 7, 7, 7, 7, 7, 7, 7, 7, 8, 8, 8, 8, 8, 8, 8, 8, 8, 8, 8, 8, 8, 8, 8, 8, 8, 8, 8, 8, 8, 8, 8, 8, 8, 8, 8, 8, 8, 8, 8, 8, 8, 8, 8, 8, 8, 8, 8, 8, 8, 8, 8, 8, 8, 8, 8, 8, 8, 8, 8, 8, 8, 8, 8, 8, 8, 8, 8, 8, 8, 8, 8, 8, 8, 8, 8, 8, 8, 8, 8, 8, 8, 8, 8, 8, 8, 8, 8, 8, 8, 8, 8, 8, 8, 8, 8, 8, 8, 8, 8, 8, 8, 8, 8, 8, 8, 8, 8, 8, 8, 8, 8, 8, 8, 8, 8, 8, 8, 8, 8, 8, 8, 8, 8, 8, 8, 8, 8, 8, 8, 8, 8, 8, 8, 8, 8, 8]) (.t 21))) (.c (.q 23 [] (.cvi .i64 (.t 22))) (.c (.q 24 [] (.bin .add (.t 19) (.t 23))) (.c (.q 2 [] (.mv (.t 24))) .nil)))))))) .ret)
def t177_7 := b177_7
theorem u177_7 : vcK P t177_7 k e w = vcK P b177_7 k e w := rfl
abbrev b177_8 : X := (.seq (.seq (.reg [0, 2, 14] (.c (.q 13 [] (.mv (.t 0))) (.c (.q 14 [] (.bin .geq (.t 13) (.c (.int .u64 256)))) .nil))) t177_6) t177_7)
def t177_8 := b177_8
theorem u177_8 : vcK P t177_8 k e w = vcK P b177_8 k e w := rfl
abbrev b177_9 : X := (.seq (.seq (.reg [0, 2, 8] (.c (.q 7 [] (.mv (.t 0))) (.c (.q 8 [] (.bin .geq (.t 7) (.c (.int .u64 65536)))) .nil))) t177_4) t177_8)
def t177_9 := b177_9
theorem u177_9 : vcK P t177_9 k e w = vcK P b177_9 k e w := rfl
abbrev b177_10 : X := (.seq (.seq (.reg [0, 2, 4] (.c (.q 3 [] (.mv (.t 0))) (.c (.q 4 [] (.bin .geq (.t 3) (.c (.int .u64 4294967296)))) .nil))) t177_2) t177_9)
def t177_10 := b177_10
theorem u177_10 : vcK P t177_10 k e w = vcK P b177_10 k e w := rfl
abbrev b177_0 : X := (.seq (.reg [0, 2] (.c (.q 2 [] (.mv (.c (.int .i64 0)))) .nil)) t177_10)
def x_xmath_bits_Len64 := b177_0
theorem u177_0 : vcK P x_xmath_bits_Len64 k e w = vcK P b177_0 k e w := rfl
def r_xmath_bits_Len64 : List XO := [(.mv (.t 2))]
theorem c_xmath_bits_Len64 : convF Try.prog [54, 55, 58, 69, 70, 71, 72, 73, 84, 89, 94, 95, 113, 114, 115, 130, 134, 143, 146, 161] Try.f177 [([0, 2], []), ([0, 2, 4], []), ([0], []), ([0, 2], []), ([0, 2, 8], []), ([0, 2], []), ([0, 2], []), ([0, 2, 14], []), ([0, 2], []), ([0, 2], []), ([2], [])] = some (x_xmath_bits_Len64, r_xmath_bits_Len64) := by kernel_rfl
def us_xmath_bits_Len64 :=  (aI (aI (aI @u177_0 @u177_1) (aI @u177_2 (aI @u177_3 @u177_4))) (aI (aI @u177_5 (aI @u177_6 @u177_7)) (aI @u177_8 (aI @u177_9 @u177_10))))
end
set_option maxRecDepth 100000 in
theorem xmath_bits_Len64_zero (w : World) : Fn 177 [.int .u64 0] w (fun r _ => ∃ k : Int, r = .int .i64 k) := by
  (refine callsV_of mix Try.func177 c_xmath_bits_Len64 ?_; simp only [↓vsd, vsn, gW, qd, qv, ev, pick, argE, zipE, ne_eq, eq_self, forall_const, implies_true, if_true, if_false, reduceIte, reduceCtorEq, Nat.reduceEqDiff, Nat.reduceAdd, Nat.reduceLT, ↓us_xmath_bits_Len64, r_xmath_bits_Len64])
  refine ⟨fun h => absurd h (by decide), fun _ => ⟨fun h => absurd h (by decide), fun _ => ⟨fun h => absurd h (by decide), fun _ => ?_⟩⟩⟩
  refine ⟨inR_u8 (by decide), by decide, by first | exact inR_i64 (by decide) | decide, by first | exact ⟨Ext.refl _, _, rfl⟩ | exact ⟨_, rfl⟩⟩
theorem xmath_bits_Len_zero (w : World) : Fn 132 [.int .u64 0] w (fun r _ => ∃ k : Int, r = .int .i64 k) := by
  (refine callsV_of mix Try.func132 c_xmath_bits_Len ?_; simp only [↓vsd, vsn, gW, qd, qv, ev, pick, argE, zipE, ne_eq, eq_self, forall_const, implies_true, if_true, if_false, reduceIte, reduceCtorEq, Nat.reduceEqDiff, Nat.reduceAdd, Nat.reduceLT, ↓us_xmath_bits_Len, r_xmath_bits_Len])
  refine m_call (xmath_bits_Len64_zero _) ?_
  rintro _ w1 hx1 ⟨k, rfl⟩
  simp only [↓vsd, vsn, gW, qd, qv, ev, pick, argE, zipE, ne_eq, eq_self, forall_const, implies_true, if_true, if_false, reduceIte, reduceCtorEq, Nat.reduceEqDiff, Nat.reduceAdd, Nat.reduceLT, ↓us_xmath_bits_Len, r_xmath_bits_Len]
  exact ⟨hx1, k, rfl⟩
theorem xslices_insertion_nil (v : Value) (w : World) : Fn 197 [v, .int .i64 0, .int .i64 0] w (fun _ _ => True) := by
  (refine callsV_of mix Try.func197 c_xslices_insertionSortOrdered_string ?_; simp only [↓vsd, vsn, gW, qd, qv, ev, pick, argE, zipE, ne_eq, eq_self, forall_const, implies_true, if_true, if_false, reduceIte, reduceCtorEq, Nat.reduceEqDiff, Nat.reduceAdd, Nat.reduceLT, ↓us_xslices_insertionSortOrdered_string, r_xslices_insertionSortOrdered_string])
  refine ⟨inR_i64 (by omega), ?_⟩
  refine m_upto 0 (fun i vs w' => vs = [.int .i64 (0 + 1)] ∧ Ext w w') ⟨rfl, Ext.refl _⟩ ?_
  rintro i vs w1 hi ⟨rfl, hx1⟩
  have hI : ¬ (0 : Int) + 1 < 0 := by decide
  simp only [↓vsd, vsn, gW, qd, qv, ev, pick, argE, zipE, ne_eq, eq_self, forall_const, implies_true, if_true, if_false, reduceIte, reduceCtorEq, Nat.reduceEqDiff, Nat.reduceAdd, Nat.reduceLT, ↓us_xslices_insertionSortOrdered_string, r_xslices_insertionSortOrdered_string, hI]
  exact hx1
theorem xslices_pdq_nil (v : Value) (lim : Int) (w : World) : Fn 178 [v, .int .i64 0, .int .i64 0, .int .i64 lim] w (fun _ _ => True) := by
  (refine callsV_of mix Try.func178 c_xslices_pdqsortOrdered_string ?_; simp only [↓vsd, vsn, gW, qd, qv, ev, pick, argE, zipE, ne_eq, eq_self, forall_const, implies_true, if_true, if_false, reduceIte, reduceCtorEq, Nat.reduceEqDiff, Nat.reduceAdd, Nat.reduceLT, ↓us_xslices_pdqsortOrdered_string, r_xslices_pdqsortOrdered_string])
  refine m_upto 0 (fun i vs w' => vs = [.int .i64 0, .int .i64 0, .int .i64 lim, .bool true, .bool true] ∧ Ext w w') ⟨rfl, Ext.refl _⟩ ?_
  rintro i vs w1 hi ⟨rfl, hx1⟩
  have hI : (0 : Int) - 0 ≤ 12 := by decide
  simp only [↓vsd, vsn, gW, qd, qv, ev, pick, argE, zipE, ne_eq, eq_self, forall_const, implies_true, if_true, if_false, reduceIte, reduceCtorEq, Nat.reduceEqDiff, Nat.reduceAdd, Nat.reduceLT, ↓us_xslices_pdqsortOrdered_string, r_xslices_pdqsortOrdered_string, hI]
  have z0 : (0 : Int) - 0 = 0 := by decide
  refine ⟨inR_i64 (by decide), m_call (xslices_insertion_nil _ _) ?_⟩
  rintro _ w2 hx2 _
  simp only [↓vsd, vsn, gW, qd, qv, ev, pick, argE, zipE, ne_eq, eq_self, forall_const, implies_true, if_true, if_false, reduceIte, reduceCtorEq, Nat.reduceEqDiff, Nat.reduceAdd, Nat.reduceLT, ↓us_xslices_pdqsortOrdered_string, r_xslices_pdqsortOrdered_string]
  exact hx1.trans hx2
theorem xslices_Sort_nil (v : Value) (w : World) (h : Sq fS 1 w v []) : Fn 134 [v] w (fun _ _ => True) := by
  have hf := h.facts
  rw [List.length_nil, Int.natCast_zero] at hf
  have e0 : (0 : Int) % 18446744073709551616 = 0 := by decide
  (refine callsV_of mix Try.func134 c_xslices_Sort_string_string ?_; simp only [↓vsd, vsn, gW, qd, qv, ev, pick, argE, zipE, ne_eq, eq_self, forall_const, implies_true, if_true, if_false, reduceIte, reduceCtorEq, Nat.reduceEqDiff, Nat.reduceAdd, Nat.reduceLT, ↓us_xslices_Sort_string_string, r_xslices_Sort_string_string])
  simp only [↓vsd, vsn, gW, qd, qv, ev, pick, argE, zipE, ne_eq, eq_self, forall_const, implies_true, if_true, if_false, reduceIte, reduceCtorEq, Nat.reduceEqDiff, Nat.reduceAdd, Nat.reduceLT, ↓us_xslices_Sort_string_string, r_xslices_Sort_string_string, hf, e0]
  refine m_call (xmath_bits_Len_zero _) ?_
  rintro _ w1 hx1 ⟨k, rfl⟩
  simp only [↓vsd, vsn, gW, qd, qv, ev, pick, argE, zipE, ne_eq, eq_self, forall_const, implies_true, if_true, if_false, reduceIte, reduceCtorEq, Nat.reduceEqDiff, Nat.reduceAdd, Nat.reduceLT, ↓us_xslices_Sort_string_string, r_xslices_Sort_string_string]
  refine m_call (xslices_pdq_nil v k _) ?_
  rintro _ w2 hx2 _
  simp only [↓vsd, vsn, gW, qd, qv, ev, pick, argE, zipE, ne_eq, eq_self, forall_const, implies_true, if_true, if_false, reduceIte, reduceCtorEq, Nat.reduceEqDiff, Nat.reduceAdd, Nat.reduceLT, ↓us_xslices_Sort_string_string, r_xslices_Sort_string_string]
  exact hx1.trans hx2
theorem isorted_okn (v : Value) (l : List Bs) (hl : l.length ≤ 1000000000) (w : World) (h : Sq fS 1 w v l) : Fn 67 [v] w (fun r w' => Own fS 1 9 w.heap.size w' r (srt l)) := by
  by_cases h0 : 0 < l.length
  · exact isorted_ok v l ⟨h0, hl⟩ w h
  · obtain rfl : l = [] := List.length_eq_zero_iff.1 (by omega)
    (refine callsV_of mix Try.func67 c_isorted ?_; simp only [↓vsd, vsn, gW, qd, qv, ev, pick, argE, zipE, ne_eq, eq_self, forall_const, implies_true, if_true, if_false, reduceIte, reduceCtorEq, Nat.reduceEqDiff, Nat.reduceAdd, Nat.reduceLT, ↓us_isorted, r_isorted])
    refine m_call (xslices_Clone_string_string_ok v [] hl _ h) ?_
    rintro x w1 hx1 ho1
    have hx1 : Ext w w1 := by first | exact hx1 | exact ud hx1 | exact ud (ud hx1)
    simp only [↓vsd, vsn, gW, qd, qv, ev, pick, argE, zipE, ne_eq, eq_self, forall_const, implies_true, if_true, if_false, reduceIte, reduceCtorEq, Nat.reduceEqDiff, Nat.reduceAdd, Nat.reduceLT, ↓us_isorted, r_isorted]
    refine m_call (xslices_Sort_nil x _ ho1.sq) ?_
    rintro _ w2 hx2 _
    have hx2 : Ext w1 w2 := by first | exact hx2 | exact ud hx2 | exact ud (ud hx2)
    simp only [↓vsd, vsn, gW, qd, qv, ev, pick, argE, zipE, ne_eq, eq_self, forall_const, implies_true, if_true, if_false, reduceIte, reduceCtorEq, Nat.reduceEqDiff, Nat.reduceAdd, Nat.reduceLT, ↓us_isorted, r_isorted]
    exact ⟨hx1.trans hx2, (ho1.ext hx2).to (List.length_eq_zero_iff.1 (srt_len [])).symm⟩
def sortV (l : List Bs) : List Bs := if IsRows l then srt l else []
theorem iSortRows_ok (v : Value) (l : List Bs) (hl : l.length ≤ 1000000) (w : World) (h : Sq fS 1 w v l) : Fn 16 [v] w (fun r w' => ∃ x, r = .tuple ⟨[x, .bool (decide (IsRows l))]⟩ ∧ Own fS 1 9 w.heap.size w' x (sortV l)) := by
  (refine callsV_of mix Try.func16 c_iSortRows ?_; simp only [↓vsd, vsn, gW, qd, qv, ev, pick, argE, zipE, ne_eq, eq_self, forall_const, implies_true, if_true, if_false, reduceIte, reduceCtorEq, Nat.reduceEqDiff, Nat.reduceAdd, Nat.reduceLT, ↓us_iSortRows, r_iSortRows])
  refine m_call (iGoodRows_ok v l (by omega) _ h) ?_
  rintro _ w1 hx1 rfl
  by_cases hr : IsRows l
  · simp only [↓vsd, vsn, gW, qd, qv, ev, pick, argE, zipE, ne_eq, eq_self, forall_const, implies_true, if_true, if_false, reduceIte, reduceCtorEq, Nat.reduceEqDiff, Nat.reduceAdd, Nat.reduceLT, ↓us_iSortRows, r_iSortRows, hr]
    refine m_call (isorted_okn v l (by omega) _ (by first | exact h.ext hx1 | exact h.ext (dr hx1))) ?_
    rintro x w2 hx2 ho2
    have hx2 : Ext w1 w2 := by first | exact hx2 | exact ud hx2 | exact ud (ud hx2)
    simp only [↓vsd, vsn, gW, qd, qv, ev, pick, argE, zipE, ne_eq, eq_self, forall_const, implies_true, if_true, if_false, reduceIte, reduceCtorEq, Nat.reduceEqDiff, Nat.reduceAdd, Nat.reduceLT, ↓us_iSortRows, r_iSortRows]
    exact ⟨hx1.trans hx2, x, rfl, by rw [sortV, if_pos hr]; exact ho2.mono hx1.size⟩
  · simp only [↓vsd, vsn, gW, qd, qv, ev, pick, argE, zipE, ne_eq, eq_self, forall_const, implies_true, if_true, if_false, reduceIte, reduceCtorEq, Nat.reduceEqDiff, Nat.reduceAdd, Nat.reduceLT, ↓us_iSortRows, r_iSortRows, hr]
    exact ⟨hx1, _, rfl, by rw [sortV, if_neg hr]; exact Own.nil fS_len⟩
theorem sSortRows_ok (v : Value) (l : List Bs) (hl : l.length ≤ 1000000) (w : World) (h : Sq fS 1 w v l) : Fn 17 [v] w (fun r w' => ∃ x, r = .tuple ⟨[x, .bool (decide (IsRows l))]⟩ ∧ Own fS 1 9 w.heap.size w' x (sortV l)) := by
  (refine callsV_of mix Try.func17 c_sSortRows ?_; simp only [↓vsd, vsn, gW, qd, qv, ev, pick, argE, zipE, ne_eq, eq_self, forall_const, implies_true, if_true, if_false, reduceIte, reduceCtorEq, Nat.reduceEqDiff, Nat.reduceAdd, Nat.reduceLT, ↓us_sSortRows, r_sSortRows])
  refine m_call (sl6Rows_ok v l (by omega) _ h) ?_
  rintro _ w1 hx1 rfl
  by_cases hr : IsRows l
  · simp only [↓vsd, vsn, gW, qd, qv, ev, pick, argE, zipE, ne_eq, eq_self, forall_const, implies_true, if_true, if_false, reduceIte, reduceCtorEq, Nat.reduceEqDiff, Nat.reduceAdd, Nat.reduceLT, ↓us_sSortRows, r_sSortRows, hr]
    refine m_call (sl6Sort_ok l.length l v (Nat.le_refl _) hl _ (by first | exact h.ext hx1 | exact h.ext (dr hx1))) ?_
    rintro x w2 hx2 ho2
    have hx2 : Ext w1 w2 := by first | exact hx2 | exact ud hx2 | exact ud (ud hx2)
    simp only [↓vsd, vsn, gW, qd, qv, ev, pick, argE, zipE, ne_eq, eq_self, forall_const, implies_true, if_true, if_false, reduceIte, reduceCtorEq, Nat.reduceEqDiff, Nat.reduceAdd, Nat.reduceLT, ↓us_sSortRows, r_sSortRows]
    exact ⟨hx1.trans hx2, x, rfl, by rw [sortV, if_pos hr]; exact ho2.mono hx1.size⟩
  · simp only [↓vsd, vsn, gW, qd, qv, ev, pick, argE, zipE, ne_eq, eq_self, forall_const, implies_true, if_true, if_false, reduceIte, reduceCtorEq, Nat.reduceEqDiff, Nat.reduceAdd, Nat.reduceLT, ↓us_sSortRows, r_sSortRows, hr]
    exact ⟨hx1, _, rfl, by rw [sortV, if_neg hr]; exact Own.nil fS_len⟩
def LtOk (a : Bs) (l : List Bs) : Prop := IsRow a ∧ AreRows a.length l
instance (a : Bs) (l : List Bs) : Decidable (LtOk a l) := by unfold LtOk; infer_instance
def ltV (a : Bs) (l : List Bs) : List Bs := if LtOk a l then l.map (timesL a) else []
theorem iLeftTimes_ok (a : Bs) (v : Value) (l : List Bs) (hl : l.length ≤ 1000000) (w : World) (h : Sq fS 1 w v l) : Fn 19 [S a, v] w (fun r w' => ∃ x, r = .tuple ⟨[x, .bool (decide (LtOk a l))]⟩ ∧ Own fS 1 9 w.heap.size w' x (ltV a l)) := by
  (refine callsV_of mix Try.func19 c_iLeftTimes ?_; simp only [↓vsd, vsn, gW, qd, qv, ev, pick, argE, zipE, ne_eq, eq_self, forall_const, implies_true, if_true, if_false, reduceIte, reduceCtorEq, Nat.reduceEqDiff, Nat.reduceAdd, Nat.reduceLT, ↓us_iLeftTimes, r_iLeftTimes])
  refine m_call (iGoodRow_ok a _) ?_
  rintro _ w1 hx1 rfl
  by_cases ha : IsRow a
  · simp only [↓vsd, vsn, gW, qd, qv, ev, pick, argE, zipE, ne_eq, eq_self, forall_const, implies_true, if_true, if_false, reduceIte, reduceCtorEq, Nat.reduceEqDiff, Nat.reduceAdd, Nat.reduceLT, ↓us_iLeftTimes, r_iLeftTimes, ha]
    refine m_call (iareRowsOf_ok a.length v l (by omega) _ (by first | exact h.ext hx1 | exact h.ext (dr hx1))) ?_
    rintro _ w2 hx2 rfl
    have hx2 : Ext w1 w2 := by first | exact hx2 | exact ud hx2 | exact ud (ud hx2)
    have hx12 := hx1.trans hx2
    by_cases hr : AreRows a.length l
    · have hok : LtOk a l := ⟨ha, hr⟩
      simp only [↓vsd, vsn, gW, qd, qv, ev, pick, argE, zipE, ne_eq, eq_self, forall_const, implies_true, if_true, if_false, reduceIte, reduceCtorEq, Nat.reduceEqDiff, Nat.reduceAdd, Nat.reduceLT, ↓us_iLeftTimes, r_iLeftTimes, hr]
      refine m_call (ileftTimes_okp a.length a v l rfl hr.n hl _ (by first | exact h.ext hx12 | exact h.ext (dr hx12))) ?_
      rintro x w3 hx3 ho3
      have hx3 : Ext w2 w3 := by first | exact hx3 | exact ud hx3 | exact ud (ud hx3)
      simp only [↓vsd, vsn, gW, qd, qv, ev, pick, argE, zipE, ne_eq, eq_self, forall_const, implies_true, if_true, if_false, reduceIte, reduceCtorEq, Nat.reduceEqDiff, Nat.reduceAdd, Nat.reduceLT, ↓us_iLeftTimes, r_iLeftTimes]
      exact ⟨hx12.trans hx3, x, by rw [decide_eq_true hok], by rw [ltV, if_pos hok]; exact ho3.mono hx12.size⟩
    · simp only [↓vsd, vsn, gW, qd, qv, ev, pick, argE, zipE, ne_eq, eq_self, forall_const, implies_true, if_true, if_false, reduceIte, reduceCtorEq, Nat.reduceEqDiff, Nat.reduceAdd, Nat.reduceLT, ↓us_iLeftTimes, r_iLeftTimes, hr]
      exact ⟨hx12, _, by rw [decide_eq_false (fun hh : LtOk a l => hr hh.2)], by rw [ltV, if_neg (fun hh : LtOk a l => hr hh.2)]; exact Own.nil fS_len⟩
  · simp only [↓vsd, vsn, gW, qd, qv, ev, pick, argE, zipE, ne_eq, eq_self, forall_const, implies_true, if_true, if_false, reduceIte, reduceCtorEq, Nat.reduceEqDiff, Nat.reduceAdd, Nat.reduceLT, ↓us_iLeftTimes, r_iLeftTimes, ha]
    exact ⟨hx1, _, by rw [decide_eq_false (fun hh : LtOk a l => ha hh.1)], by rw [ltV, if_neg (fun hh : LtOk a l => ha hh.1)]; exact Own.nil fS_len⟩
theorem sLeftTimes_ok (a : Bs) (v : Value) (l : List Bs) (hl : l.length ≤ 1000000) (w : World) (h : Sq fS 1 w v l) : Fn 20 [S a, v] w (fun r w' => ∃ x, r = .tuple ⟨[x, .bool (decide (LtOk a l))]⟩ ∧ Own fS 1 9 w.heap.size w' x (ltV a l)) := by
  have hno : ¬ LtOk a l → ∀ w', ∃ x, Value.tuple ⟨[.slice none 0 0, .bool false]⟩ = .tuple ⟨[x, .bool (decide (LtOk a l))]⟩ ∧ Own fS 1 9 w.heap.size w' x (ltV a l) := fun hn w' =>
    ⟨_, by rw [decide_eq_false hn], by rw [ltV, if_neg hn]; exact Own.nil fS_len⟩
  (refine callsV_of mix Try.func20 c_sLeftTimes ?_; simp only [↓vsd, vsn, gW, qd, qv, ev, pick, argE, zipE, ne_eq, eq_self, forall_const, implies_true, if_true, if_false, reduceIte, reduceCtorEq, Nat.reduceEqDiff, Nat.reduceAdd, Nat.reduceLT, ↓us_sLeftTimes, r_sLeftTimes])
  refine m_call (sl1Row_ok a _) ?_
  rintro _ w1 hx1 rfl
  have hq1 := h.ext hx1
  by_cases ha : IsRow a
  · simp only [↓vsd, vsn, gW, qd, qv, ev, pick, argE, zipE, ne_eq, eq_self, forall_const, implies_true, if_true, if_false, reduceIte, reduceCtorEq, Nat.reduceEqDiff, Nat.reduceAdd, Nat.reduceLT, ↓us_sLeftTimes, r_sLeftTimes, ha]
    refine m_call (sl6Rows_ok v l (by omega) _ (by first | exact h.ext hx1 | exact h.ext (dr hx1))) ?_
    rintro _ w2 hx2 rfl
    have hx2 : Ext w1 w2 := by first | exact hx2 | exact ud hx2 | exact ud (ud hx2)
    have hx12 := hx1.trans hx2
    have hq2 := hq1.ext hx2
    by_cases hr : IsRows l
    · by_cases hz : 0 < l.length
      · have hzI : (0 : Int) < l.length := by omega
        have a1 := hq1.at0 [] hz
        have a2 := hq2.at0 [] hz
        by_cases hst : ((l.getD 0 []).length : Int) = a.length
        · have hok : LtOk a l := ⟨ha, hr, .inr hst⟩
          simp only [↓vsd, vsn, gW, qd, qv, ev, pick, argE, zipE, ne_eq, eq_self, forall_const, implies_true, if_true, if_false, reduceIte, reduceCtorEq, Nat.reduceEqDiff, Nat.reduceAdd, Nat.reduceLT, ↓us_sLeftTimes, r_sLeftTimes, hr, hq1.facts, hq2.facts, hzI, a1, a2, hst]
          refine ⟨by omega, m_call (sl6Left_ok a.length a v l rfl hok.2.n hl _ (by first | exact h.ext hx12 | exact h.ext (dr hx12))) ?_⟩
          rintro x w3 hx3 ho3
          have hx3 : Ext w2 w3 := by first | exact hx3 | exact ud hx3 | exact ud (ud hx3)
          simp only [↓vsd, vsn, gW, qd, qv, ev, pick, argE, zipE, ne_eq, eq_self, forall_const, implies_true, if_true, if_false, reduceIte, reduceCtorEq, Nat.reduceEqDiff, Nat.reduceAdd, Nat.reduceLT, ↓us_sLeftTimes, r_sLeftTimes]
          exact ⟨hx12.trans hx3, x, by rw [decide_eq_true hok], by rw [ltV, if_pos hok]; exact ho3.mono hx12.size⟩
        · simp only [↓vsd, vsn, gW, qd, qv, ev, pick, argE, zipE, ne_eq, eq_self, forall_const, implies_true, if_true, if_false, reduceIte, reduceCtorEq, Nat.reduceEqDiff, Nat.reduceAdd, Nat.reduceLT, ↓us_sLeftTimes, r_sLeftTimes, hr, hq1.facts, hq2.facts, hzI, a1, a2, hst]
          exact ⟨by omega, hx12, hno (fun hh => by rcases hh.2.2 with h1 | h1; omega; exact hst h1) _⟩
      · have hzI : ¬ (0 : Int) < l.length := by omega
        have hok : LtOk a l := ⟨ha, hr, .inl (by omega)⟩
        simp only [↓vsd, vsn, gW, qd, qv, ev, pick, argE, zipE, ne_eq, eq_self, forall_const, implies_true, if_true, if_false, reduceIte, reduceCtorEq, Nat.reduceEqDiff, Nat.reduceAdd, Nat.reduceLT, ↓us_sLeftTimes, r_sLeftTimes, hr, hq1.facts, hq2.facts, hzI]
        refine m_call (sl6Left_ok a.length a v l rfl hok.2.n hl _ (by first | exact h.ext hx12 | exact h.ext (dr hx12))) ?_
        rintro x w3 hx3 ho3
        have hx3 : Ext w2 w3 := by first | exact hx3 | exact ud hx3 | exact ud (ud hx3)
        simp only [↓vsd, vsn, gW, qd, qv, ev, pick, argE, zipE, ne_eq, eq_self, forall_const, implies_true, if_true, if_false, reduceIte, reduceCtorEq, Nat.reduceEqDiff, Nat.reduceAdd, Nat.reduceLT, ↓us_sLeftTimes, r_sLeftTimes]
        exact ⟨hx12.trans hx3, x, by rw [decide_eq_true hok], by rw [ltV, if_pos hok]; exact ho3.mono hx12.size⟩
    · simp only [↓vsd, vsn, gW, qd, qv, ev, pick, argE, zipE, ne_eq, eq_self, forall_const, implies_true, if_true, if_false, reduceIte, reduceCtorEq, Nat.reduceEqDiff, Nat.reduceAdd, Nat.reduceLT, ↓us_sLeftTimes, r_sLeftTimes, hr]
      exact ⟨hx12, hno (fun hh => hr hh.2.1) _⟩
  · simp only [↓vsd, vsn, gW, qd, qv, ev, pick, argE, zipE, ne_eq, eq_self, forall_const, implies_true, if_true, if_false, reduceIte, reduceCtorEq, Nat.reduceEqDiff, Nat.reduceAdd, Nat.reduceLT, ↓us_sLeftTimes, r_sLeftTimes, ha]
    exact ⟨hx1, hno (fun hh => ha hh.1) _⟩
end Go.Proofs.Ythopbkemkfjebaa
