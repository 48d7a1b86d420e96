/-
  Programs of calls: what the reference answers of one; the calls of the laws FnExactIsWords, FnExactDepthOf, FnExactCompileWords, FnExactNamesIn.
  Conditions: none.
-/
import Derived.Test.YtnbnofmnbopknaaDoorA15
set_option linter.unusedSimpArgs false
set_option linter.unusedVariables false
set_option linter.defProp false
namespace Go.Proofs.YtnbnofmnbopknaaDoor
open Go Go.RowKit
section
variable (P : Program) (k : KT) (e : Env) (w : World)
abbrev b21_1 : X := (.cond (.t 13) (.reg [0, 4] (.c (.q 14 [] (.mv (.t 4))) (.c (.q 15 [] (.nil (.t 14))) (.c (.q 16 [] (.fa 2 (.t 15))) (.c (.e none [] (.st 1 (.t 16) (.c (.bool true)))) .nil))))) .skip)
def t21_1 := b21_1
theorem u21_1 : vcK P t21_1 k e w = vcK P b21_1 k e w := rfl
abbrev b21_2 : X := (.cond (.t 41) .skip (.exit 0))
def t21_2 := b21_2
theorem u21_2 : vcK P t21_2 k e w = vcK P b21_2 k e w := rfl
abbrev b21_3 : X := (.cond (.t 76) (.seq (.reg [0, 4] (.c (.q 77 [] (.mv (.t 4))) (.c (.q 78 [] (.nil (.t 77))) (.c (.q 79 [] (.fa 2 (.t 78))) (.c (.e none [] (.st 1 (.t 79) (.c (.bool true)))) .nil))))) (.exit 0)) .skip)
def t21_3 := b21_3
theorem u21_3 : vcK P t21_3 k e w = vcK P b21_3 k e w := rfl
abbrev b21_4 : X := (.cond (.t 84) (.reg [0, 4, 5, 6] (.c (.q 85 [] (.mv (.t 4))) (.c (.q 86 [] (.nil (.t 85))) (.c (.q 87 [] (.fa 2 (.t 86))) (.c (.e none [] (.st 1 (.t 87) (.c (.bool true)))) .nil))))) .skip)
def t21_4 := b21_4
theorem u21_4 : vcK P t21_4 k e w = vcK P b21_4 k e w := rfl
abbrev b21_5 : X := (.reg [0, 4] (.c (.q 105 [] (.mv (.t 4))) (.c (.q 106 [] (.mv (.t 4))) (.c (.q 107 [] (.nil (.t 106))) (.c (.q 108 [] (.fa 4 (.t 107))) (.c (.q 109 [] (.ld (.t 108))) (.c (.q 110 [] (.mv (.t 6))) (.c (.e (some 111) [] (.bsl 9 1 [(.t 110)])) (.c (.e (some 112) [] (.app 26 9 1 16 [(S [])] 26 (.t 109) (.t 111))) (.c (.q 113 [] (.nil (.t 105))) (.c (.q 114 [] (.fa 4 (.t 113))) (.c (.e none [] (.st 1 (.t 114) (.t 112))) .nil))))))))))))
def t21_5 := b21_5
theorem u21_5 : vcK P t21_5 k e w = vcK P b21_5 k e w := rfl
abbrev b21_6 : X := (.seq (.reg [0, 4, 6] (.c (.q 95 [] (.mv (.t 4))) (.c (.q 96 [] (.mv (.t 4))) (.c (.q 97 [] (.nil (.t 96))) (.c (.q 98 [] (.fa 3 (.t 97))) (.c (.q 99 [] (.ld (.t 98))) (.c (.q 100 [] (.mv (.t 5))) (.c (.e (some 101) [] (.bsl 9 1 [(.t 100)])) (.c (.e (some 102) [] (.app 26 9 1 16 [(S [])] 26 (.t 99) (.t 101))) (.c (.q 103 [] (.nil (.t 95))) (.c (.q 104 [] (.fa 3 (.t 103))) (.c (.e none [] (.st 1 (.t 104) (.t 102))) .nil)))))))))))) t21_5)
def t21_6 := b21_6
theorem u21_6 : vcK P t21_6 k e w = vcK P b21_6 k e w := rfl
abbrev b21_7 : X := (.seq (.reg [0, 4, 5, 6] (.c (.q 88 [] (.mv (.t 4))) (.c (.q 89 [] (.nil (.t 88))) (.c (.q 90 [] (.fa 1 (.t 89))) (.c (.q 91 [] (.ld (.t 90))) (.c (.q 92 [] (.bin .add (.t 91) (.c (.int .i64 1)))) (.c (.q 93 [] (.nil (.t 88))) (.c (.q 94 [] (.fa 1 (.t 93))) (.c (.e none [] (.st 1 (.t 94) (.t 92))) .nil))))))))) t21_6)
def t21_7 := b21_7
theorem u21_7 : vcK P t21_7 k e w = vcK P b21_7 k e w := rfl
abbrev b21_8 : X := (.seq (.seq (.reg [0, 4, 5, 6, 84] (.c (.q 82 [] (.mv (.t 4))) (.c (.e (some 83) [] (.call false 37 [(.t 82)])) (.c (.q 84 [] (.bin .neq (.t 83) (.c (.int .u8 59)))) .nil)))) t21_4) t21_7)
def t21_8 := b21_8
theorem u21_8 : vcK P t21_8 k e w = vcK P b21_8 k e w := rfl
abbrev b21_9 : X := (.seq (.reg [0, 4, 5, 6] (.c (.q 80 [] (.mv (.t 4))) (.c (.e (some 81) [] (.call true 36 [(.t 80)])) (.c (.q 6 [] (.mv (.t 81))) .nil)))) t21_8)
def t21_9 := b21_9
theorem u21_9 : vcK P t21_9 k e w = vcK P b21_9 k e w := rfl
abbrev b21_10 : X := (.seq (.seq (.reg [0, 4, 5, 76] (.c (.q 60 [] (.mv (.t 5))) (.c (.q 61 [] (.idx (.t 60) (.c (.int .i64 0)))) (.c (.q 62 [] (.bin .lss (.t 61) (.c (.int .u8 65)))) (.c (.q 63 [] (.mv (.t 62))) (.c (.q 64 [(63, false)] (.mv (.t 5))) (.c (.q 65 [(63, false)] (.idx (.t 64) (.c (.int .i64 0)))) (.c (.q 66 [(63, false)] (.bin .gtr (.t 65) (.c (.int .u8 90)))) (.c (.q 67 [] (.pick (.t 63) (.c (.bool true)) (.t 66))) (.c (.q 68 [] (.mv (.t 67))) (.c (.q 69 [(68, false)] (.mv (.t 4))) (.c (.q 70 [(68, false)] (.nil (.t 69))) (.c (.q 71 [(68, false)] (.fa 3 (.t 70))) (.c (.q 72 [(68, false)] (.ld (.t 71))) (.c (.q 73 [(68, false)] (.mv (.t 5))) (.c (.e (some 74) [(68, false)] (.call false 35 [(.t 72), (.t 73)])) (.c (.q 75 [(68, false)] (.bin .geq (.t 74) (.c (.int .i64 0)))) (.c (.q 76 [] (.pick (.t 68) (.c (.bool true)) (.t 75))) .nil)))))))))))))))))) t21_3) t21_9)
def t21_10 := b21_10
theorem u21_10 : vcK P t21_10 k e w = vcK P b21_10 k e w := rfl
abbrev b21_11 : X := (.seq (.reg [0, 4, 5] (.c (.q 53 [] (.mv (.t 4))) (.c (.q 54 [] (.nil (.t 53))) (.c (.q 55 [] (.fa 1 (.t 54))) (.c (.q 56 [] (.ld (.t 55))) (.c (.q 57 [] (.bin .add (.t 56) (.c (.int .i64 2)))) (.c (.q 58 [] (.nil (.t 53))) (.c (.q 59 [] (.fa 1 (.t 58))) (.c (.e none [] (.st 1 (.t 59) (.t 57))) .nil))))))))) t21_10)
def t21_11 := b21_11
theorem u21_11 : vcK P t21_11 k e w = vcK P b21_11 k e w := rfl
abbrev b21_12 : X := (.blk 1 (.seq (.drw [0, 4, 5] (.c (.q 42 [] (.mv (.t 0))) (.c (.q 43 [] (.mv (.t 4))) (.c (.q 44 [] (.nil (.t 43))) (.c (.q 45 [] (.fa 1 (.t 44))) (.c (.q 46 [] (.ld (.t 45))) (.c (.q 47 [] (.mv (.t 4))) (.c (.q 48 [] (.nil (.t 47))) (.c (.q 49 [] (.fa 1 (.t 48))) (.c (.q 50 [] (.ld (.t 49))) (.c (.q 51 [] (.bin .add (.t 50) (.c (.int .i64 1)))) (.c (.q 52 [] (.sub (.t 42) (some (.t 46)) (some (.t 51)))) (.c (.q 5 [] (.mv (.t 52))) .nil))))))))))))) t21_11))
def t21_12 := b21_12
theorem u21_12 : vcK P t21_12 k e w = vcK P b21_12 k e w := rfl
abbrev b21_13 : X := (.seq (.seq (.reg [0, 4, 41] (.c (.q 17 [] (.mv (.t 4))) (.c (.q 18 [] (.nil (.t 17))) (.c (.q 19 [] (.fa 2 (.t 18))) (.c (.q 20 [] (.ld (.t 19))) (.c (.q 21 [] (.not (.t 20))) (.c (.q 22 [] (.mv (.t 21))) (.c (.q 23 [(22, true)] (.mv (.t 4))) (.c (.q 24 [(22, true)] (.nil (.t 23))) (.c (.q 25 [(22, true)] (.fa 1 (.t 24))) (.c (.q 26 [(22, true)] (.ld (.t 25))) (.c (.q 27 [(22, true)] (.bin .add (.t 26) (.c (.int .i64 1)))) (.c (.q 28 [(22, true)] (.mv (.t 0))) (.c (.q 29 [(22, true)] (.len (.t 28))) (.c (.q 30 [(22, true)] (.bin .lss (.t 27) (.t 29))) (.c (.q 31 [] (.pick (.t 22) (.t 30) (.c (.bool false)))) (.c (.q 32 [] (.mv (.t 31))) (.c (.q 33 [(32, true)] (.mv (.t 0))) (.c (.q 34 [(32, true)] (.mv (.t 4))) (.c (.q 35 [(32, true)] (.nil (.t 34))) (.c (.q 36 [(32, true)] (.fa 1 (.t 35))) (.c (.q 37 [(32, true)] (.ld (.t 36))) (.c (.q 38 [(32, true)] (.bin .add (.t 37) (.c (.int .i64 1)))) (.c (.q 39 [(32, true)] (.idx (.t 33) (.t 38))) (.c (.q 40 [(32, true)] (.bin .eql (.t 39) (.c (.int .u8 61)))) (.c (.q 41 [] (.pick (.t 32) (.t 40) (.c (.bool false)))) .nil)))))))))))))))))))))))))) t21_2) t21_12)
def t21_13 := b21_13
theorem u21_13 : vcK P t21_13 k e w = vcK P b21_13 k e w := rfl
abbrev b21_14 : X := (.cond (.t 118) (.seq (.reg [2, 3] (.c (.q 119 [] (.mv (.t 4))) (.c (.q 2 [] (.mv (.t 119))) (.c (.q 3 [] (.mv (.s []))) .nil)))) .ret) .skip)
def t21_14 := b21_14
theorem u21_14 : vcK P t21_14 k e w = vcK P b21_14 k e w := rfl
abbrev b21_15 : X := (.cond (.t 128) (.reg [4, 7] (.c (.q 129 [] (.mv (.t 4))) (.c (.q 130 [] (.nil (.t 129))) (.c (.q 131 [] (.fa 2 (.t 130))) (.c (.e none [] (.st 1 (.t 131) (.c (.bool true)))) .nil))))) .skip)
def t21_15 := b21_15
theorem u21_15 : vcK P t21_15 k e w = vcK P b21_15 k e w := rfl
abbrev b21_16 : X := (.seq (.reg [2, 3] (.c (.q 132 [] (.mv (.t 4))) (.c (.q 133 [] (.mv (.t 7))) (.c (.q 2 [] (.mv (.t 132))) (.c (.q 3 [] (.mv (.t 133))) .nil))))) .ret)
def t21_16 := b21_16
theorem u21_16 : vcK P t21_16 k e w = vcK P b21_16 k e w := rfl
abbrev b21_17 : X := (.seq (.seq (.reg [4, 7, 128] (.c (.q 122 [] (.mv (.t 4))) (.c (.q 123 [] (.nil (.t 122))) (.c (.q 124 [] (.fa 1 (.t 123))) (.c (.q 125 [] (.ld (.t 124))) (.c (.q 126 [] (.mv (.t 0))) (.c (.q 127 [] (.len (.t 126))) (.c (.q 128 [] (.bin .neq (.t 125) (.t 127))) .nil)))))))) t21_15) t21_16)
def t21_17 := b21_17
theorem u21_17 : vcK P t21_17 k e w = vcK P b21_17 k e w := rfl
abbrev b21_18 : X := (.seq (.reg [0, 4, 7] (.c (.q 120 [] (.mv (.t 4))) (.c (.e (some 121) [] (.call true 36 [(.t 120)])) (.c (.q 7 [] (.mv (.t 121))) .nil)))) t21_17)
def t21_18 := b21_18
theorem u21_18 : vcK P t21_18 k e w = vcK P b21_18 k e w := rfl
abbrev b21_19 : X := (.seq (.seq (.reg [0, 4, 118] (.c (.q 115 [] (.mv (.t 4))) (.c (.q 116 [] (.nil (.t 115))) (.c (.q 117 [] (.fa 2 (.t 116))) (.c (.q 118 [] (.ld (.t 117))) .nil))))) t21_14) t21_18)
def t21_19 := b21_19
theorem u21_19 : vcK P t21_19 k e w = vcK P b21_19 k e w := rfl
abbrev b21_20 : X := (.seq (.blk 0 (.loop [] [0, 4] t21_13)) t21_19)
def t21_20 := b21_20
theorem u21_20 : vcK P t21_20 k e w = vcK P b21_20 k e w := rfl
abbrev b21_21 : X := (.seq (.seq (.reg [0, 4, 13] (.c (.q 11 [] (.mv (.t 0))) (.c (.q 12 [] (.len (.t 11))) (.c (.q 13 [] (.bin .gtr (.t 12) (.c (.int .i64 200)))) .nil)))) t21_1) t21_20)
def t21_21 := b21_21
theorem u21_21 : vcK P t21_21 k e w = vcK P b21_21 k e w := rfl
abbrev b21_22 : X := (.seq (.reg [0, 4] (.c (.q 8 [] (.mv (.t 0))) (.c (.q 9 [] (.bld [(S []), (.int .i64 0), (.bool false), (.slice none 0 0), (.slice none 0 0), (.int .i64 0), (.int .i64 0)] [(0, 0, (.t 8))])) (.c (.e (some 10) [] (.box 41 (.t 9))) (.c (.q 4 [] (.mv (.t 10))) .nil))))) t21_21)
def t21_22 := b21_22
theorem u21_22 : vcK P t21_22 k e w = vcK P b21_22 k e w := rfl
abbrev b21_0 : X := (.seq (.reg [0] (.c (.q 2 [] (.mv (.c (.pointer none)))) (.c (.q 3 [] (.mv (.s []))) .nil))) t21_22)
def x_sl10Read := b21_0
theorem u21_0 : vcK P x_sl10Read k e w = vcK P b21_0 k e w := rfl
def r_sl10Read : List XO := [(.mv (.t 2)), (.mv (.t 3))]
theorem c_sl10Read : convF Tryd.prog [27, 28, 29, 30, 32, 36, 40, 45, 46, 47, 50, 51, 52, 61, 62, 98] Tryd.f21 [([0], []), ([0, 4], []), ([0, 4, 13], []), ([0, 4], []), ([], [0, 4]), ([0, 4, 41], []), ([0, 4, 5], []), ([0, 4, 5], []), ([0, 4, 5, 76], []), ([0, 4], []), ([0, 4, 5, 6], []), ([0, 4, 5, 6, 84], []), ([0, 4, 5, 6], []), ([0, 4, 5, 6], []), ([0, 4, 6], []), ([0, 4], []), ([0, 4, 118], []), ([2, 3], []), ([0, 4, 7], []), ([4, 7, 128], []), ([4, 7], []), ([2, 3], [])] = some (x_sl10Read, r_sl10Read) := by kernel_rfl
def us_sl10Read :=  (aI (aI (aI (aI @u21_0 @u21_1) (aI @u21_2 (aI @u21_3 @u21_4))) (aI (aI @u21_5 (aI @u21_6 @u21_7)) (aI @u21_8 (aI @u21_9 @u21_10)))) (aI (aI (aI @u21_11 (aI @u21_12 @u21_13)) (aI @u21_14 (aI @u21_15 @u21_16))) (aI (aI @u21_17 (aI @u21_18 @u21_19)) (aI @u21_20 (aI @u21_21 @u21_22)))))
abbrev b16_1 : X := (.seq (.reg [2] (.c (.q 10 [] (.mv (.t 3))) (.c (.q 11 [] (.nil (.t 10))) (.c (.q 12 [] (.fa 2 (.t 11))) (.c (.q 13 [] (.ld (.t 12))) (.c (.q 14 [] (.not (.t 13))) (.c (.q 2 [] (.mv (.t 14))) .nil))))))) .ret)
def t16_1 := b16_1
theorem u16_1 : vcK P t16_1 k e w = vcK P b16_1 k e w := rfl
abbrev b16_2 : X := (.seq (.reg [3] (.c (.q 6 [] (.mv (.t 0))) (.c (.e (some 7) [] (.call false 21 [(.t 6)])) (.c (.q 5 [] (.mv (.t 7))) (.c (.q 8 [] (.ext 0 (.t 5))) (.c (.q 9 [] (.ext 1 (.t 5))) (.c (.q 3 [] (.mv (.t 8))) (.c (.q 4 [] (.mv (.t 9))) .nil)))))))) t16_1)
def t16_2 := b16_2
theorem u16_2 : vcK P t16_2 k e w = vcK P b16_2 k e w := rfl
abbrev b16_0 : X := (.seq (.reg [0] (.c (.q 2 [] (.mv (.c (.bool false)))) .nil)) t16_2)
def x_sIsWords := b16_0
theorem u16_0 : vcK P x_sIsWords k e w = vcK P b16_0 k e w := rfl
def r_sIsWords : List XO := [(.mv (.t 2))]
theorem c_sIsWords : convF Tryd.prog [27, 28, 29, 30, 32, 36, 40, 45, 46, 47, 50, 51, 52, 61, 62, 98] Tryd.f16 [([0], []), ([3], []), ([2], [])] = some (x_sIsWords, r_sIsWords) := by kernel_rfl
def us_sIsWords :=  (aI @u16_0 (aI @u16_1 @u16_2))
abbrev b10_1 : X := (.cond (.t 14) (.seq (.reg [2, 3] (.c (.q 2 [] (.mv (.c (.int .i64 0)))) (.c (.q 3 [] (.mv (.c (.bool false)))) .nil))) .ret) .skip)
def t10_1 := b10_1
theorem u10_1 : vcK P t10_1 k e w = vcK P b10_1 k e w := rfl
abbrev b10_2 : X := (.seq (.reg [2, 3] (.c (.q 15 [] (.mv (.t 4))) (.c (.q 16 [] (.nil (.t 15))) (.c (.q 17 [] (.fa 6 (.t 16))) (.c (.q 18 [] (.ld (.t 17))) (.c (.q 2 [] (.mv (.t 18))) (.c (.q 3 [] (.mv (.c (.bool true)))) .nil))))))) .ret)
def t10_2 := b10_2
theorem u10_2 : vcK P t10_2 k e w = vcK P b10_2 k e w := rfl
abbrev b10_3 : X := (.seq (.seq (.reg [4, 14] (.c (.q 11 [] (.mv (.t 4))) (.c (.q 12 [] (.nil (.t 11))) (.c (.q 13 [] (.fa 2 (.t 12))) (.c (.q 14 [] (.ld (.t 13))) .nil))))) t10_1) t10_2)
def t10_3 := b10_3
theorem u10_3 : vcK P t10_3 k e w = vcK P b10_3 k e w := rfl
abbrev b10_4 : X := (.seq (.reg [4] (.c (.q 7 [] (.mv (.t 0))) (.c (.e (some 8) [] (.call false 21 [(.t 7)])) (.c (.q 6 [] (.mv (.t 8))) (.c (.q 9 [] (.ext 0 (.t 6))) (.c (.q 10 [] (.ext 1 (.t 6))) (.c (.q 4 [] (.mv (.t 9))) (.c (.q 5 [] (.mv (.t 10))) .nil)))))))) t10_3)
def t10_4 := b10_4
theorem u10_4 : vcK P t10_4 k e w = vcK P b10_4 k e w := rfl
abbrev b10_0 : X := (.seq (.reg [0] (.c (.q 2 [] (.mv (.c (.int .i64 0)))) (.c (.q 3 [] (.mv (.c (.bool false)))) .nil))) t10_4)
def x_sDepthOf := b10_0
theorem u10_0 : vcK P x_sDepthOf k e w = vcK P b10_0 k e w := rfl
def r_sDepthOf : List XO := [(.mv (.t 2)), (.mv (.t 3))]
theorem c_sDepthOf : convF Tryd.prog [27, 28, 29, 30, 32, 36, 40, 45, 46, 47, 50, 51, 52, 61, 62, 98] Tryd.f10 [([0], []), ([4], []), ([4, 14], []), ([2, 3], []), ([2, 3], [])] = some (x_sDepthOf, r_sDepthOf) := by kernel_rfl
def us_sDepthOf :=  (aI (aI @u10_0 @u10_1) (aI @u10_2 (aI @u10_3 @u10_4)))
abbrev b6_1 : X := (.cond (.t 19) (.seq (.reg [2, 3] (.c (.q 2 [] (.mv (.s []))) (.c (.q 3 [] (.mv (.c (.bool false)))) .nil))) .ret) .skip)
def t6_1 := b6_1
theorem u6_1 : vcK P t6_1 k e w = vcK P b6_1 k e w := rfl
abbrev b6_2 : X := (.seq (.reg [2, 3] (.c (.q 20 [] (.mv (.t 5))) (.c (.q 2 [] (.mv (.t 20))) (.c (.q 3 [] (.mv (.c (.bool true)))) .nil)))) .ret)
def t6_2 := b6_2
theorem u6_2 : vcK P t6_2 k e w = vcK P b6_2 k e w := rfl
abbrev b6_3 : X := (.seq (.seq (.reg [5, 19] (.c (.q 11 [] (.mv (.t 4))) (.c (.q 12 [] (.nil (.t 11))) (.c (.q 13 [] (.fa 2 (.t 12))) (.c (.q 14 [] (.ld (.t 13))) (.c (.q 15 [] (.mv (.t 14))) (.c (.q 16 [(15, false)] (.mv (.t 5))) (.c (.e (some 17) [(15, false)] (.call false 22 [(.t 16)])) (.c (.q 18 [(15, false)] (.not (.t 17))) (.c (.q 19 [] (.pick (.t 15) (.c (.bool true)) (.t 18))) .nil)))))))))) t6_1) t6_2)
def t6_3 := b6_3
theorem u6_3 : vcK P t6_3 k e w = vcK P b6_3 k e w := rfl
abbrev b6_4 : X := (.seq (.reg [4, 5] (.c (.q 7 [] (.mv (.t 0))) (.c (.e (some 8) [] (.call false 21 [(.t 7)])) (.c (.q 6 [] (.mv (.t 8))) (.c (.q 9 [] (.ext 0 (.t 6))) (.c (.q 10 [] (.ext 1 (.t 6))) (.c (.q 4 [] (.mv (.t 9))) (.c (.q 5 [] (.mv (.t 10))) .nil)))))))) t6_3)
def t6_4 := b6_4
theorem u6_4 : vcK P t6_4 k e w = vcK P b6_4 k e w := rfl
abbrev b6_0 : X := (.seq (.reg [0] (.c (.q 2 [] (.mv (.s []))) (.c (.q 3 [] (.mv (.c (.bool false)))) .nil))) t6_4)
def x_sCompileWords := b6_0
theorem u6_0 : vcK P x_sCompileWords k e w = vcK P b6_0 k e w := rfl
def r_sCompileWords : List XO := [(.mv (.t 2)), (.mv (.t 3))]
theorem c_sCompileWords : convF Tryd.prog [27, 28, 29, 30, 32, 36, 40, 45, 46, 47, 50, 51, 52, 61, 62, 98] Tryd.f6 [([0], []), ([4, 5], []), ([5, 19], []), ([2, 3], []), ([2, 3], [])] = some (x_sCompileWords, r_sCompileWords) := by kernel_rfl
def us_sCompileWords :=  (aI (aI @u6_0 @u6_1) (aI @u6_2 (aI @u6_3 @u6_4)))
abbrev b8_1 : X := (.cond (.t 14) (.seq (.reg [2, 3] (.c (.q 2 [] (.mv (.c (.slice none 0 0)))) (.c (.q 3 [] (.mv (.c (.bool false)))) .nil))) .ret) .skip)
def t8_1 := b8_1
theorem u8_1 : vcK P t8_1 k e w = vcK P b8_1 k e w := rfl
abbrev b8_2 : X := (.seq (.reg [2, 3] (.c (.q 15 [] (.mv (.t 4))) (.c (.q 16 [] (.nil (.t 15))) (.c (.q 17 [] (.fa 3 (.t 16))) (.c (.q 18 [] (.ld (.t 17))) (.c (.q 2 [] (.mv (.t 18))) (.c (.q 3 [] (.mv (.c (.bool true)))) .nil))))))) .ret)
def t8_2 := b8_2
theorem u8_2 : vcK P t8_2 k e w = vcK P b8_2 k e w := rfl
abbrev b8_3 : X := (.seq (.seq (.reg [4, 14] (.c (.q 11 [] (.mv (.t 4))) (.c (.q 12 [] (.nil (.t 11))) (.c (.q 13 [] (.fa 2 (.t 12))) (.c (.q 14 [] (.ld (.t 13))) .nil))))) t8_1) t8_2)
def t8_3 := b8_3
theorem u8_3 : vcK P t8_3 k e w = vcK P b8_3 k e w := rfl
abbrev b8_4 : X := (.seq (.reg [4] (.c (.q 7 [] (.mv (.t 0))) (.c (.e (some 8) [] (.call false 21 [(.t 7)])) (.c (.q 6 [] (.mv (.t 8))) (.c (.q 9 [] (.ext 0 (.t 6))) (.c (.q 10 [] (.ext 1 (.t 6))) (.c (.q 4 [] (.mv (.t 9))) (.c (.q 5 [] (.mv (.t 10))) .nil)))))))) t8_3)
def t8_4 := b8_4
theorem u8_4 : vcK P t8_4 k e w = vcK P b8_4 k e w := rfl
abbrev b8_0 : X := (.seq (.reg [0] (.c (.q 2 [] (.mv (.c (.slice none 0 0)))) (.c (.q 3 [] (.mv (.c (.bool false)))) .nil))) t8_4)
def x_sNamesIn := b8_0
theorem u8_0 : vcK P x_sNamesIn k e w = vcK P b8_0 k e w := rfl
def r_sNamesIn : List XO := [(.mv (.t 2)), (.mv (.t 3))]
theorem c_sNamesIn : convF Tryd.prog [27, 28, 29, 30, 32, 36, 40, 45, 46, 47, 50, 51, 52, 61, 62, 98] Tryd.f8 [([0], []), ([4], []), ([4, 14], []), ([2, 3], []), ([2, 3], [])] = some (x_sNamesIn, r_sNamesIn) := by kernel_rfl
def us_sNamesIn :=  (aI (aI @u8_0 @u8_1) (aI @u8_2 (aI @u8_3 @u8_4)))
end

theorem sl8Call_ok (l : List UInt8) (w : World) : Fn 38 [S l] w (fun r _ => r = .bool (decide (l = [112] ∨ l = [98] ∨ l = [115]))) := by
  (refine callsV_of mix Tryd.func38 c_sl8Call ?_; simp only [↓vsd, vsn, gW, qd, qv, ev, pick, argE, zipE, ne_eq, eq_self, forall_const, implies_true, if_true, if_false, reduceIte, reduceCtorEq, Nat.reduceEqDiff, Nat.reduceAdd, Nat.reduceLT, ↓us_sl8Call, r_sl8Call])
  refine ⟨Ext.refl _, ?_⟩
  simp only [← Bool.decide_or, or_assoc]
theorem sl9Good_ok (l : List UInt8) (hl : l.length ≤ 1000000000) (w : World) : Fn 22 [S l] w (fun r _ => r = .bool (decide (IsTouch l))) := by
  (refine callsV_of mix Tryd.func22 c_sl9Good ?_; simp only [↓vsd, vsn, gW, qd, qv, ev, pick, argE, zipE, ne_eq, eq_self, forall_const, implies_true, if_true, if_false, reduceIte, reduceCtorEq, Nat.reduceEqDiff, Nat.reduceAdd, Nat.reduceLT, ↓us_sl9Good, r_sl9Good])
  refine m_upto l.length (fun k vs w' => vs = [.int .i64 k] ∧ (∀ c ∈ l.take k, IsCallB c) ∧ Ext w w') ⟨rfl, by simp, Ext.refl _⟩ ?_
  rintro k vs w1 hk ⟨rfl, hc, hx⟩
  by_cases hlt : k < l.length
  · have hltI : (k : Int) < l.length := by omega
    have hltJ : ¬ (l.length : Int) ≤ k := by omega
    simp only [↓vsd, vsn, gW, qd, qv, ev, pick, argE, zipE, ne_eq, eq_self, forall_const, implies_true, if_true, if_false, reduceIte, reduceCtorEq, Nat.reduceEqDiff, Nat.reduceAdd, Nat.reduceLT, ↓us_sl9Good, r_sl9Good, hltI, hltJ]
    have e1 : (l.take (k + 1)).drop k = [l.getD k 0] := by
      rw [List.take_add_one, List.drop_append, List.getD_eq_getElem?_getD, List.getElem?_eq_getElem (by omega)]
      simp [Nat.min_eq_left (show k ≤ l.length by omega)]
    rw [e1]
    refine ⟨inR_i64 (by omega), by omega, m_call (sl8Call_ok _ _) ?_⟩
    rintro _ w2 hx2 rfl
    simp only [↓vsd, vsn, gW, qd, qv, ev, pick, argE, zipE, ne_eq, eq_self, forall_const, implies_true, if_true, if_false, reduceIte, reduceCtorEq, Nat.reduceEqDiff, Nat.reduceAdd, Nat.reduceLT, ↓us_sl9Good, r_sl9Good]
    refine ⟨fun hno => ⟨hx.trans hx2, ?_⟩, fun hy => ⟨inR_i64 (by omega), UpTo.next hlt ⟨rfl, fun c hc' => ?_, hx.trans hx2⟩⟩⟩
    · have : ¬ IsTouch l := fun h => by
        rcases h.2 _ (getD_mem' 0 hlt) with h | h | h
        · exact hno.1 (u8_eq h)
        · exact hno.2.1 (u8_eq h)
        · exact hno.2.2 (u8_eq h)
      simp only [this, decide_false]
    · rcases mem_take' (d := 0) hlt hc' with h | rfl
      · exact hc c h
      · by_cases h1 : l.getD k 0 = 112
        · exact .inl (by rw [h1]; rfl)
        · by_cases h2 : l.getD k 0 = 98
          · exact .inr (.inl (by rw [h2]; rfl))
          · by_cases h3 : l.getD k 0 = 115
            · exact .inr (.inr (by rw [h3]; rfl))
            · exact absurd ⟨h1, h2, h3⟩ hy
  · obtain rfl : k = l.length := by omega
    have hltI : ¬ (l.length : Int) < l.length := by omega
    simp only [↓vsd, vsn, gW, qd, qv, ev, pick, argE, zipE, ne_eq, eq_self, forall_const, implies_true, if_true, if_false, reduceIte, reduceCtorEq, Nat.reduceEqDiff, Nat.reduceAdd, Nat.reduceLT, ↓us_sl9Good, r_sl9Good, hltI]
    rw [List.take_length] at hc
    refine m_call (sl1In_ok _ _ _ _) ?_
    rintro _ w2 hx2 rfl
    simp only [↓vsd, vsn, gW, qd, qv, ev, pick, argE, zipE, ne_eq, eq_self, forall_const, implies_true, if_true, if_false, reduceIte, reduceCtorEq, Nat.reduceEqDiff, Nat.reduceAdd, Nat.reduceLT, ↓us_sl9Good, r_sl9Good]
    refine ⟨hx.trans hx2, ?_⟩
    simp only [← Bool.decide_and]
    congr 1
    exact propext ⟨fun h2 => ⟨by omega, hc⟩, fun h2 => by have := h2.1; omega⟩
/-- What the reference's reader hands back. -/
def ReadS (s : List UInt8) (w : World) (r : Value) (w' : World) : Prop := ∃ (b : Nat) (out : List UInt8) (bad : Bool) (a most : Nat) (nm mn : Value), r = .tuple ⟨[.pointer (some ⟨b, 0, none⟩), S out]⟩ ∧ Blk w' b (fR s a bad nm mn 0 most) 41 ∧ out.length ≤ 1000000 ∧
  match progL s with
  | none => bad = true
  | some (out', kn, most') => bad = false ∧ out.take 61 = out' ∧ most = most' ∧ kn.length ≤ 1000 ∧ Own fS 1 9 w.heap.size w' nm (namesL kn)
theorem sl10Read_ok (s : List UInt8) (hs : s.length ≤ 1048576) (w : World) : Fn 21 [S s] w (ReadS s w) := by
  (refine callsV_of mix Tryd.func21 c_sl10Read ?_; simp only [↓vsd, vsn, gW, qd, qv, ev, pick, argE, zipE, ne_eq, eq_self, forall_const, implies_true, if_true, if_false, reduceIte, reduceCtorEq, Nat.reduceEqDiff, Nat.reduceAdd, Nat.reduceLT, ↓us_sl10Read, r_sl10Read])
  refine m_al ?_
  rintro b w1 hb hblk1 hx1 hs1
  have hb1 : Blk w1 b (fR s 0 false (.slice none 0 0) (.slice none 0 0) 0 0) 41 := hblk1
  simp only [↓vsd, vsn, gW, qd, qv, ev, pick, argE, zipE, ne_eq, eq_self, forall_const, implies_true, if_true, if_false, reduceIte, reduceCtorEq, Nat.reduceEqDiff, Nat.reduceAdd, Nat.reduceLT, ↓us_sl10Read, r_sl10Read]
  have hbw : w.heap.size ≤ b := by omega
  have hbadR (a most : Nat) (nm mn : Value) (w' : World) (out : List UInt8) (ho : out.length ≤ 1000000) (hb' : Blk w' b (fR s a true nm mn 0 most) 41) (hp : progL s = none) : ReadS s w (.tuple ⟨[.pointer (some ⟨b, 0, none⟩), S out]⟩) w' :=
    ⟨b, out, true, a, most, nm, mn, rfl, hb', ho, by rw [hp]⟩
  refine ⟨fun hbig => m_st hb1 rfl (by decide : 2 + 1 ≤ 7) (fB_one _) ?_, fun hsm => ?_⟩
  · rintro w2 hb2' hu2
    have hb2 : Blk w2 b (fR s 0 true (.slice none 0 0) (.slice none 0 0) 0 0) 41 := hb2'
    have hx2 : Ext w w2 := hu2.below hx1 hbw
    have hpn : progL s = none := by rw [progL, if_neg (by omega)]
    simp only [↓vsd, vsn, gW, qd, qv, ev, pick, argE, zipE, ne_eq, eq_self, forall_const, implies_true, if_true, if_false, reduceIte, reduceCtorEq, Nat.reduceEqDiff, Nat.reduceAdd, Nat.reduceLT, ↓us_sl10Read, r_sl10Read]
    refine m_upto 0 (fun k vs w' => vs = [] ∧ Blk w' b (fR s 0 true (.slice none 0 0) (.slice none 0 0) 0 0) 41 ∧ Ext w w') ⟨rfl, hb2, hx2⟩ ?_
    rintro k vs w3 hk ⟨rfl, hb3, hx3⟩
    simp only [↓vsd, vsn, gW, qd, qv, ev, pick, argE, zipE, ne_eq, eq_self, forall_const, implies_true, if_true, if_false, reduceIte, reduceCtorEq, Nat.reduceEqDiff, Nat.reduceAdd, Nat.reduceLT, ↓us_sl10Read, r_sl10Read, hb3.facts, fRg]
    exact ⟨hx3, hbadR 0 0 _ _ w3 [] (by decide) hb3 hpn⟩
  have hs200 : s.length ≤ 200 := by omega
  refine m_loop (fun m vs w' => ∃ (a most : Nat) (nm mn : Value) (bad : Bool), vs = [] ∧ Blk w' b (fR s a bad nm mn 0 most) 41 ∧ Ext w w' ∧ (bad = true → progL s = none) ∧
    (bad = false → ∃ (kn : List (UInt8 × List UInt8)) (mns : List (List UInt8)), a ≤ s.length ∧ s.length - a < m ∧ most ≤ 600 ∧ kn.length ≤ a ∧ Kn kn mns a ∧ Own fS 1 9 (b + 1) w' nm (namesL kn) ∧ Own fS 1 9 (b + 1) w' mn mns ∧ Apart nm mn ∧ defs s m a kn most = defs s 1000 0 [] 0)) 1000
    ⟨0, 0, _, _, false, rfl, hb1, hx1, fun h => (by cases h), fun _ => ⟨[], [], by omega, by omega, by omega, by simp, ⟨rfl, fun i hi => absurd hi (Nat.not_lt_zero i), by simp⟩, Own.nil fS_len, Own.nil fS_len, fun c hc => (by cases hc), rfl⟩⟩ ?_
  rintro m vs w3 ⟨a, most, nm, mn, bad, rfl, hb3, hx3, hbd, hgd⟩
  cases bad with
  | true =>
    simp only [↓vsd, vsn, gW, qd, qv, ev, pick, argE, zipE, ne_eq, eq_self, forall_const, implies_true, if_true, if_false, reduceIte, reduceCtorEq, Nat.reduceEqDiff, Nat.reduceAdd, Nat.reduceLT, ↓us_sl10Read, r_sl10Read, hb3.facts, fRg]
    exact ⟨hx3, hbadR a most _ _ w3 [] (by decide) hb3 (hbd rfl)⟩
  | false =>
    obtain ⟨kn, mns, has, ham, hmo, hkl, hkn, ho3, hn3, hap, hR⟩ := hgd rfl
    obtain ⟨g, rfl⟩ : ∃ g, m = g + 1 := ⟨m - 1, by omega⟩
    rw [defs] at hR
    have hq (w' : World) (hg : w3.grownBy w' (some b)) : Sq fS 1 w' nm (namesL kn) ∧ Sq fS 1 w' mn mns := ⟨(ho3.keep hg (fun c hc => by have := Option.some.inj hc; omega)).sq, (hn3.keep hg (fun c hc => by have := Option.some.inj hc; omega)).sq⟩
    by_cases hd1 : a + 1 < s.length ∧ (s.getD (a + 1) 0).toNat = 61
    · rw [if_pos hd1] at hR
      have hI : (a : Int) + 1 < s.length := by omega
      have hJ : ((s.getD (a + 1) 0).toNat : Int) = 61 := by omega
      simp only [↓vsd, vsn, gW, qd, qv, ev, pick, argE, zipE, ne_eq, eq_self, forall_const, implies_true, if_true, if_false, reduceIte, reduceCtorEq, Nat.reduceEqDiff, Nat.reduceAdd, Nat.reduceLT, ↓us_sl10Read, r_sl10Read, hb3.facts, fRg, hI, hJ]
      have e1 : (s.take (a + 1)).drop a = [s.getD a 0] := by
        rw [List.take_add_one, List.drop_append, List.getD_eq_getElem?_getD, List.getElem?_eq_getElem (by omega)]
        simp [Nat.min_eq_left (show a ≤ s.length by omega)]
      have hb3d : Blk w3.drew b (fR s a false nm mn 0 most) 41 := hb3
      refine ⟨inR_i64 (by omega), inR_i64 (by omega), by omega, inR_i64 (by omega), by omega, inR_i64 (by omega), m_st hb3d rfl (by decide : 1 + 1 ≤ 7) (fI_one _) ?_⟩
      rintro w4 hb4' hu4
      have hb4 : Blk w4 b (fR s (a + 2 : Nat) false nm mn 0 most) 41 := hb4'
      have hx4 : Ext w w4 := hu4.below (dr hx3) hbw
      have hg34 : w3.grownBy w4 (some b) := gudw hu4.grown
      by_cases hAZ : 65 ≤ (s.getD a 0).toNat ∧ (s.getD a 0).toNat ≤ 90
      · have h65 : 65 ≤ ((s.getD a 0).toNat : Int) := by omega
        have h90 : ((s.getD a 0).toNat : Int) ≤ 90 := by omega
        have hg0 : [s.getD a 0].getD 0 0 = s.getD a 0 := rfl
        have hn65 : ¬ ((s.getD a 0).toNat : Int) < 65 := by omega
        have hn90 : ¬ 90 < ((s.getD a 0).toNat : Int) := by omega
        simp only [↓vsd, vsn, gW, qd, qv, ev, pick, argE, zipE, ne_eq, eq_self, forall_const, implies_true, if_true, if_false, reduceIte, reduceCtorEq, Nat.reduceEqDiff, Nat.reduceAdd, Nat.reduceLT, ↓us_sl10Read, r_sl10Read, hb4.facts, fRg, e1, hg0, h65, h90, hn65, hn90]
        have hq4 := hq w4 hg34
        have hnl : (namesL kn).length = kn.length := by simp [namesL]
        refine ⟨by decide, by decide, m_call (sl10At_ok nm (namesL kn) [s.getD a 0] (by omega) _ hq4.1) ?_⟩
        rintro _ w5 hx5 ⟨i, rfl, hi⟩
        have hb5 := hb4.ext hx5
        have hg5 := grown_trans hg34 (grown_ext (some b) hx5)
        have hx45 := hx4.trans hx5
        rcases hi with ⟨rfl, hno⟩ | ⟨k, rfl, hk, hke, hkn0⟩
        · have hlk := (kn_lookup (kn := kn)).2 hno
          have hneg : ¬ (0 : Int) ≤ -1 := by decide
          simp only [↓vsd, vsn, gW, qd, qv, ev, pick, argE, zipE, ne_eq, eq_self, forall_const, implies_true, if_true, if_false, reduceIte, reduceCtorEq, Nat.reduceEqDiff, Nat.reduceAdd, Nat.reduceLT, ↓us_sl10Read, r_sl10Read, hb5.facts, fRg, hneg]
          have hkn2 : Kn kn mns (a + 2) := ⟨hkn.1, hkn.2.1, fun x hx => by have := hkn.2.2 x hx; omega⟩
          refine m_callw (.inl rfl) (sl10R_block_ok 1000 s kn nm mn mns 0 most (a + 2) b w5 (by omega) (by omega) hs200 (by omega) hmo (by omega) hkn2 (fun w' hg => hq w' (grown_trans hg5 hg)) hb5) ?_
          rintro _ w6 ⟨a6, most6, bad6, o6, rfl, hb6, hg6, ha6, hal6, hmm6, hol6, hR6⟩
          have hx6 : Ext w w6 := Below.trans hx45 ⟨hg6.os, hg6.tape, hg6.output, hg6.size, fun i hi => hg6.block i (by have := hx45.size; omega) (fun e => by have := Option.some.inj e; omega)⟩
          have hg36 := grown_trans hg5 hg6
          have hl3 : 65 ≤ (s.getD a 0).toNat ∧ (s.getD a 0).toNat ≤ 90 ∧ List.lookup (s.getD a 0) kn = none := ⟨hAZ.1, hAZ.2, hlk⟩
          rw [if_pos hl3] at hR
          simp only [↓vsd, vsn, gW, qd, qv, ev, pick, argE, zipE, ne_eq, eq_self, forall_const, implies_true, if_true, if_false, reduceIte, reduceCtorEq, Nat.reduceEqDiff, Nat.reduceAdd, Nat.reduceLT, ↓us_sl10Read, r_sl10Read]
          refine m_call (sl10R_peek_ok s a6 _ _ _ _ _ b _ hb6) ?_
          rintro _ w7 hx7 rfl
          have hb7 := hb6.ext hx7
          have hx17 := hx6.trans hx7
          have hg37 := grown_trans hg36 (grown_ext (some b) hx7)
          have tail : True := trivial
          by_cases h59 : (pk s a6).toNat = 59
          · have h59I : ((pk s a6).toNat : Int) = 59 := by omega
            simp only [↓vsd, vsn, gW, qd, qv, ev, pick, argE, zipE, ne_eq, eq_self, forall_const, implies_true, if_true, if_false, reduceIte, reduceCtorEq, Nat.reduceEqDiff, Nat.reduceAdd, Nat.reduceLT, ↓us_sl10Read, r_sl10Read, h59I, hb7.facts, fRg]
            refine ⟨inR_i64 (by omega), m_st hb7 rfl (by decide : 1 + 1 ≤ 7) (fI_one _) ?_⟩
            rintro w8 hb8' hu8
            have hb8 : Blk w8 b (fR s (a6 + 1 : Nat) bad6 nm mn 0 most6) 41 := hb8'
            have hx8 : Ext w w8 := hu8.below hx17 hbw
            have hg38 := grown_trans hg37 hu8.grown
            have ho8 := ho3.keep hg38 (fun c hc => by have := Option.some.inj hc; omega)
            have hn8 := hn3.keep hg38 (fun c hc => by have := Option.some.inj hc; omega)
            simp only [↓vsd, vsn, gW, qd, qv, ev, pick, argE, zipE, ne_eq, eq_self, forall_const, implies_true, if_true, if_false, reduceIte, reduceCtorEq, Nat.reduceEqDiff, Nat.reduceAdd, Nat.reduceLT, ↓us_sl10Read, r_sl10Read, hb8.facts, fRg]
            refine m_bsl (one_el rfl) ?_
            rintro b9 w9 hb9 hblk9 hx9 hs9
            have hx9 : Ext w8 w9 := by first | exact hx9 | exact ud hx9
            simp only [↓vsd, vsn, gW, qd, qv, ev, pick, argE, zipE, ne_eq, eq_self, forall_const, implies_true, if_true, if_false, reduceIte, reduceCtorEq, Nat.reduceEqDiff, Nat.reduceAdd, Nat.reduceLT, ↓us_sl10Read, r_sl10Read]
            have hsz9 : b + 1 ≤ w9.heap.size := by have := hb8.lt; have := hx9.size; omega
            have hnl2 : (namesL kn).length ≤ 300 := by omega
            refine m_app2 (ho8.ext hx9) (Sq.one fS_len hblk9 rfl) fS_one (by decide) (by simp only [List.length_singleton]; omega) (by decide) hsz9 ?_
            rintro nm10 w10 ho10 hg10 hn10
            have hbd10 := (ho8.ext hx9).bound
            have hx10 : Ext w w10 := Below.trans (hx8.trans hx9) ⟨hg10.os, hg10.tape, hg10.output, hg10.size, fun i hi => hg10.block i (by have := (hx8.trans hx9).size; omega) (fun e => by have := (hbd10 i e.symm).1; omega)⟩
            have hb10 := (hb8.ext hx9).same (hg10.block b (hb8.ext hx9).lt (fun e => by have := (hbd10 b e.symm).1; omega))
            have hm10 := (hn8.ext hx9).keep2 hg10 hap
            have hap10 := hap.next (hn8.ext hx9) hn10
            have hc10 : nm10.cells = #[nm10] := of_eq_true ho10.sq.oneC
            have h1c10 : nm10.oneCell' = true := by rcases ho10.sq.2.2 with ⟨rfl, _⟩ | ⟨x, c, rfl, _⟩ <;> rfl
            simp only [↓vsd, vsn, gW, qd, qv, ev, pick, argE, zipE, ne_eq, eq_self, forall_const, implies_true, if_true, if_false, reduceIte, reduceCtorEq, Nat.reduceEqDiff, Nat.reduceAdd, Nat.reduceLT, ↓us_sl10Read, r_sl10Read]
            refine m_st hb10 (by rw [hc10]; rfl) (by decide : 3 + 1 ≤ 7) (by rw [hc10]; intro u hu; simp only [List.mem_singleton] at hu; subst hu; exact h1c10) ?_
            rintro w11 hb11' hu11
            rw [hc10] at hb11'
            have hb11 : Blk w11 b (fR s (a6 + 1 : Nat) bad6 nm10 mn 0 most6) 41 := hb11'
            have hx11 : Ext w w11 := hu11.below hx10 hbw
            have ho11 := ho10.keep hu11.grown (fun c hc => by have := Option.some.inj hc; omega)
            have hn11 := hm10.keep hu11.grown (fun c hc => by have := Option.some.inj hc; omega)
            simp only [↓vsd, vsn, gW, qd, qv, ev, pick, argE, zipE, ne_eq, eq_self, forall_const, implies_true, if_true, if_false, reduceIte, reduceCtorEq, Nat.reduceEqDiff, Nat.reduceAdd, Nat.reduceLT, ↓us_sl10Read, r_sl10Read, hb11.facts, fRg]
            refine m_bsl (one_el rfl) ?_
            rintro b12 w12 hb12 hblk12 hx12 hs12
            have hx12 : Ext w11 w12 := by first | exact hx12 | exact ud hx12
            simp only [↓vsd, vsn, gW, qd, qv, ev, pick, argE, zipE, ne_eq, eq_self, forall_const, implies_true, if_true, if_false, reduceIte, reduceCtorEq, Nat.reduceEqDiff, Nat.reduceAdd, Nat.reduceLT, ↓us_sl10Read, r_sl10Read]
            have hsz12 : b + 1 ≤ w12.heap.size := by have := hb11.lt; have := hx12.size; omega
            have hml2 : mns.length ≤ 300 := by rw [hkn.1]; omega
            refine m_app2 (hn11.ext hx12) (Sq.one fS_len hblk12 rfl) fS_one (by decide) (by simp only [List.length_singleton]; omega) (by decide) hsz12 ?_
            rintro mn13 w13 hn13 hg13 hnn13
            have hbd13 := (hn11.ext hx12).bound
            have hx13 : Ext w w13 := Below.trans (hx11.trans hx12) ⟨hg13.os, hg13.tape, hg13.output, hg13.size, fun i hi => hg13.block i (by have := (hx11.trans hx12).size; omega) (fun e => by have := (hbd13 i e.symm).1; omega)⟩
            have hb13 := (hb11.ext hx12).same (hg13.block b (hb11.ext hx12).lt (fun e => by have := (hbd13 b e.symm).1; omega))
            have ho13 := (ho11.ext hx12).keep2 hg13 hap10.symm
            have hap13 : Apart nm10 mn13 := (hap10.symm.next (ho11.ext hx12) hnn13).symm
            have hc13 : mn13.cells = #[mn13] := of_eq_true hn13.sq.oneC
            have h1c13 : mn13.oneCell' = true := by rcases hn13.sq.2.2 with ⟨rfl, _⟩ | ⟨x, c, rfl, _⟩ <;> rfl
            simp only [↓vsd, vsn, gW, qd, qv, ev, pick, argE, zipE, ne_eq, eq_self, forall_const, implies_true, if_true, if_false, reduceIte, reduceCtorEq, Nat.reduceEqDiff, Nat.reduceAdd, Nat.reduceLT, ↓us_sl10Read, r_sl10Read]
            refine m_st hb13 (by rw [hc13]; rfl) (by decide : 4 + 1 ≤ 7) (by rw [hc13]; intro u hu; simp only [List.mem_singleton] at hu; subst hu; exact h1c13) ?_
            rintro w14 hb14' hu14
            rw [hc13] at hb14'
            have hb14 : Blk w14 b (fR s (a6 + 1 : Nat) bad6 nm10 mn13 0 most6) 41 := hb14'
            have hx14 : Ext w w14 := hu14.below hx13 hbw
            have ho14 := ho13.keep hu14.grown (fun c hc => by have := Option.some.inj hc; omega)
            have hn14 := hn13.keep hu14.grown (fun c hc => by have := Option.some.inj hc; omega)
            simp only [↓vsd, vsn, gW, qd, qv, ev, pick, argE, zipE, ne_eq, eq_self, forall_const, implies_true, if_true, if_false, reduceIte, reduceCtorEq, Nat.reduceEqDiff, Nat.reduceAdd, Nat.reduceLT, ↓us_sl10Read, r_sl10Read]
            have hp59 : a6 < s.length ∧ (s.getD a6 0).toNat = 59 := by
              unfold pk at h59
              split at h59
              · rename_i h; exact ⟨h, h59⟩
              · exact absurd h59 (by decide)
            refine ⟨g, by omega, a6 + 1, most6, nm10, mn13, bad6, hb14, hx14, fun hb => ?_, fun hb => ?_⟩
            · rw [progL, if_pos hs200, ← hR]
              cases hbl : blk s kn 1000 (a + 2) [] false 0 most with
              | none => rfl
              | some p =>
                obtain ⟨part, a7, most7⟩ := p
                rw [hbl] at hR6
                rw [hR6.1] at hb
                cases hb
            · cases hbl : blk s kn 1000 (a + 2) [] false 0 most with
              | none =>
                rw [hbl] at hR6
                rw [hb] at hR6
                cases hR6
              | some p =>
                obtain ⟨part, a7, most7⟩ := p
                rw [hbl] at hR6 hR
                obtain ⟨_, rfl, rfl, hpt⟩ := hR6
                simp only at hR
                rw [if_pos hp59] at hR
                refine ⟨kn ++ [(s.getD a 0, part)], mns ++ [o6], by omega, by omega, hmm6, by simp only [List.length_append, List.length_singleton]; omega, ⟨by simp only [List.length_append, List.length_singleton, hkn.1], fun i hi => ?_, fun x hx => ?_⟩, ho14.to (by rw [namesL, namesL, List.map_append]; rfl), hn14, hap13, hR⟩
                · simp only [List.length_append, List.length_singleton] at hi
                  by_cases hik : i < kn.length
                  · have h1 : (mns ++ [o6]).getD i [] = mns.getD i [] := by rw [List.getD_eq_getElem?_getD, List.getD_eq_getElem?_getD, List.getElem?_append_left (by rw [hkn.1]; exact hik)]
                    have h2 : (kn ++ [(s.getD a 0, part)]).getD i (0, []) = kn.getD i (0, []) := by simp only [List.getD_eq_getElem?_getD, List.getElem?_append_left hik]
                    rw [h1, h2]
                    exact hkn.2.1 i hik
                  · have hie : i = kn.length := by omega
                    have h1 : (mns ++ [o6]).getD i [] = o6 := by rw [List.getD_eq_getElem?_getD, List.getElem?_append_right (by rw [hkn.1]; omega), hkn.1, hie, Nat.sub_self]; rfl
                    have h2 : (kn ++ [(s.getD a 0, part)]).getD i (0, []) = (s.getD a 0, part) := by rw [List.getD_eq_getElem?_getD, List.getElem?_append_right (by omega), hie, Nat.sub_self]; rfl
                    rw [h1, h2]
                    exact hpt
                · rcases List.mem_append.1 hx with hx | hx
                  · have := hkn.2.2 x hx; omega
                  · rw [List.mem_singleton.1 hx]; omega
          · have h59I : ¬ ((pk s a6).toNat : Int) = 59 := by omega
            simp only [↓vsd, vsn, gW, qd, qv, ev, pick, argE, zipE, ne_eq, eq_self, forall_const, implies_true, if_true, if_false, reduceIte, reduceCtorEq, Nat.reduceEqDiff, Nat.reduceAdd, Nat.reduceLT, ↓us_sl10Read, r_sl10Read, h59I]
            refine m_st hb7 rfl (by decide : 2 + 1 ≤ 7) (fB_one _) ?_
            rintro w7' hb7s' hu7'
            have hb7s : Blk w7' b (fR s a6 true nm mn 0 most6) 41 := hb7s'
            have hx17s : Ext w w7' := hu7'.below hx17 hbw
            have hg37s := grown_trans hg37 hu7'.grown
            simp only [↓vsd, vsn, gW, qd, qv, ev, pick, argE, zipE, ne_eq, eq_self, forall_const, implies_true, if_true, if_false, reduceIte, reduceCtorEq, Nat.reduceEqDiff, Nat.reduceAdd, Nat.reduceLT, ↓us_sl10Read, r_sl10Read, hb7s.facts, fRg]
            refine ⟨inR_i64 (by omega), m_st hb7s rfl (by decide : 1 + 1 ≤ 7) (fI_one _) ?_⟩
            rintro w8 hb8' hu8
            have hb8 : Blk w8 b (fR s (a6 + 1 : Nat) true nm mn 0 most6) 41 := hb8'
            have hx8 : Ext w w8 := hu8.below hx17s hbw
            have hg38 := grown_trans hg37s hu8.grown
            have ho8 := ho3.keep hg38 (fun c hc => by have := Option.some.inj hc; omega)
            have hn8 := hn3.keep hg38 (fun c hc => by have := Option.some.inj hc; omega)
            simp only [↓vsd, vsn, gW, qd, qv, ev, pick, argE, zipE, ne_eq, eq_self, forall_const, implies_true, if_true, if_false, reduceIte, reduceCtorEq, Nat.reduceEqDiff, Nat.reduceAdd, Nat.reduceLT, ↓us_sl10Read, r_sl10Read, hb8.facts, fRg]
            refine m_bsl (one_el rfl) ?_
            rintro b9 w9 hb9 hblk9 hx9 hs9
            have hx9 : Ext w8 w9 := by first | exact hx9 | exact ud hx9
            simp only [↓vsd, vsn, gW, qd, qv, ev, pick, argE, zipE, ne_eq, eq_self, forall_const, implies_true, if_true, if_false, reduceIte, reduceCtorEq, Nat.reduceEqDiff, Nat.reduceAdd, Nat.reduceLT, ↓us_sl10Read, r_sl10Read]
            have hsz9 : b + 1 ≤ w9.heap.size := by have := hb8.lt; have := hx9.size; omega
            have hnl2 : (namesL kn).length ≤ 300 := by omega
            refine m_app2 (ho8.ext hx9) (Sq.one fS_len hblk9 rfl) fS_one (by decide) (by simp only [List.length_singleton]; omega) (by decide) hsz9 ?_
            rintro nm10 w10 ho10 hg10 hn10
            have hbd10 := (ho8.ext hx9).bound
            have hx10 : Ext w w10 := Below.trans (hx8.trans hx9) ⟨hg10.os, hg10.tape, hg10.output, hg10.size, fun i hi => hg10.block i (by have := (hx8.trans hx9).size; omega) (fun e => by have := (hbd10 i e.symm).1; omega)⟩
            have hb10 := (hb8.ext hx9).same (hg10.block b (hb8.ext hx9).lt (fun e => by have := (hbd10 b e.symm).1; omega))
            have hm10 := (hn8.ext hx9).keep2 hg10 hap
            have hap10 := hap.next (hn8.ext hx9) hn10
            have hc10 : nm10.cells = #[nm10] := of_eq_true ho10.sq.oneC
            have h1c10 : nm10.oneCell' = true := by rcases ho10.sq.2.2 with ⟨rfl, _⟩ | ⟨x, c, rfl, _⟩ <;> rfl
            simp only [↓vsd, vsn, gW, qd, qv, ev, pick, argE, zipE, ne_eq, eq_self, forall_const, implies_true, if_true, if_false, reduceIte, reduceCtorEq, Nat.reduceEqDiff, Nat.reduceAdd, Nat.reduceLT, ↓us_sl10Read, r_sl10Read]
            refine m_st hb10 (by rw [hc10]; rfl) (by decide : 3 + 1 ≤ 7) (by rw [hc10]; intro u hu; simp only [List.mem_singleton] at hu; subst hu; exact h1c10) ?_
            rintro w11 hb11' hu11
            rw [hc10] at hb11'
            have hb11 : Blk w11 b (fR s (a6 + 1 : Nat) true nm10 mn 0 most6) 41 := hb11'
            have hx11 : Ext w w11 := hu11.below hx10 hbw
            have ho11 := ho10.keep hu11.grown (fun c hc => by have := Option.some.inj hc; omega)
            have hn11 := hm10.keep hu11.grown (fun c hc => by have := Option.some.inj hc; omega)
            simp only [↓vsd, vsn, gW, qd, qv, ev, pick, argE, zipE, ne_eq, eq_self, forall_const, implies_true, if_true, if_false, reduceIte, reduceCtorEq, Nat.reduceEqDiff, Nat.reduceAdd, Nat.reduceLT, ↓us_sl10Read, r_sl10Read, hb11.facts, fRg]
            refine m_bsl (one_el rfl) ?_
            rintro b12 w12 hb12 hblk12 hx12 hs12
            have hx12 : Ext w11 w12 := by first | exact hx12 | exact ud hx12
            simp only [↓vsd, vsn, gW, qd, qv, ev, pick, argE, zipE, ne_eq, eq_self, forall_const, implies_true, if_true, if_false, reduceIte, reduceCtorEq, Nat.reduceEqDiff, Nat.reduceAdd, Nat.reduceLT, ↓us_sl10Read, r_sl10Read]
            have hsz12 : b + 1 ≤ w12.heap.size := by have := hb11.lt; have := hx12.size; omega
            have hml2 : mns.length ≤ 300 := by rw [hkn.1]; omega
            refine m_app2 (hn11.ext hx12) (Sq.one fS_len hblk12 rfl) fS_one (by decide) (by simp only [List.length_singleton]; omega) (by decide) hsz12 ?_
            rintro mn13 w13 hn13 hg13 hnn13
            have hbd13 := (hn11.ext hx12).bound
            have hx13 : Ext w w13 := Below.trans (hx11.trans hx12) ⟨hg13.os, hg13.tape, hg13.output, hg13.size, fun i hi => hg13.block i (by have := (hx11.trans hx12).size; omega) (fun e => by have := (hbd13 i e.symm).1; omega)⟩
            have hb13 := (hb11.ext hx12).same (hg13.block b (hb11.ext hx12).lt (fun e => by have := (hbd13 b e.symm).1; omega))
            have ho13 := (ho11.ext hx12).keep2 hg13 hap10.symm
            have hap13 : Apart nm10 mn13 := (hap10.symm.next (ho11.ext hx12) hnn13).symm
            have hc13 : mn13.cells = #[mn13] := of_eq_true hn13.sq.oneC
            have h1c13 : mn13.oneCell' = true := by rcases hn13.sq.2.2 with ⟨rfl, _⟩ | ⟨x, c, rfl, _⟩ <;> rfl
            simp only [↓vsd, vsn, gW, qd, qv, ev, pick, argE, zipE, ne_eq, eq_self, forall_const, implies_true, if_true, if_false, reduceIte, reduceCtorEq, Nat.reduceEqDiff, Nat.reduceAdd, Nat.reduceLT, ↓us_sl10Read, r_sl10Read]
            refine m_st hb13 (by rw [hc13]; rfl) (by decide : 4 + 1 ≤ 7) (by rw [hc13]; intro u hu; simp only [List.mem_singleton] at hu; subst hu; exact h1c13) ?_
            rintro w14 hb14' hu14
            rw [hc13] at hb14'
            have hb14 : Blk w14 b (fR s (a6 + 1 : Nat) true nm10 mn13 0 most6) 41 := hb14'
            have hx14 : Ext w w14 := hu14.below hx13 hbw
            have ho14 := ho13.keep hu14.grown (fun c hc => by have := Option.some.inj hc; omega)
            have hn14 := hn13.keep hu14.grown (fun c hc => by have := Option.some.inj hc; omega)
            simp only [↓vsd, vsn, gW, qd, qv, ev, pick, argE, zipE, ne_eq, eq_self, forall_const, implies_true, if_true, if_false, reduceIte, reduceCtorEq, Nat.reduceEqDiff, Nat.reduceAdd, Nat.reduceLT, ↓us_sl10Read, r_sl10Read]
            refine ⟨g, by omega, a6 + 1, most6, nm10, mn13, true, hb14, hx14, fun _ => ?_, fun hb => (by cases hb)⟩
            rw [progL, if_pos hs200, ← hR]
            cases hbl : blk s kn 1000 (a + 2) [] false 0 most with
            | none => rfl
            | some p =>
              obtain ⟨part, a7, most7⟩ := p
              rw [hbl] at hR6
              obtain ⟨_, rfl, _, _⟩ := hR6
              simp only
              rw [if_neg (fun h => h59 (by rw [pk, if_pos h.1]; exact h.2))]
        · rw [hnl] at hk
          have hlk := (kn_lookup (kn := kn)).1 k hk hke hkn0
          have hpn : progL s = none := by rw [progL, if_pos hs200, ← hR, if_neg (fun h => by rw [hlk] at h; cases h.2.2)]
          have hpos : (0 : Int) ≤ (k : Nat) := by omega
          simp only [↓vsd, vsn, gW, qd, qv, ev, pick, argE, zipE, ne_eq, eq_self, forall_const, implies_true, if_true, if_false, reduceIte, reduceCtorEq, Nat.reduceEqDiff, Nat.reduceAdd, Nat.reduceLT, ↓us_sl10Read, r_sl10Read, hb5.facts, fRg, hpos]
          refine m_st hb5 rfl (by decide : 2 + 1 ≤ 7) (fB_one _) ?_
          rintro w6 hb6' hu6
          have hb6 : Blk w6 b (fR s (a + 2 : Nat) true nm mn 0 most) 41 := hb6'
          simp only [↓vsd, vsn, gW, qd, qv, ev, pick, argE, zipE, ne_eq, eq_self, forall_const, implies_true, if_true, if_false, reduceIte, reduceCtorEq, Nat.reduceEqDiff, Nat.reduceAdd, Nat.reduceLT, ↓us_sl10Read, r_sl10Read, hb6.facts, fRg]
          exact ⟨hu6.below hx45 hbw, hbadR (a + 2) most _ _ w6 [] (by decide) hb6 hpn⟩
      · have hnAZ : ((s.getD a 0).toNat : Int) < 65 ∨ 90 < ((s.getD a 0).toNat : Int) := by omega
        have hpn : progL s = none := by rw [progL, if_pos hs200, ← hR, if_neg (fun h => hAZ ⟨h.1, h.2.1⟩)]
        have hg0 : [s.getD a 0].getD 0 0 = s.getD a 0 := rfl
        have hdT : (decide (((s.getD a 0).toNat : Int) < 65) || decide (90 < ((s.getD a 0).toNat : Int))) = true := by rw [← Bool.decide_or]; exact decide_eq_true hnAZ
        have hnot : ¬ (65 ≤ ((s.getD a 0).toNat : Int) ∧ ((s.getD a 0).toNat : Int) ≤ 90) := by omega
        simp only [↓vsd, vsn, gW, qd, qv, ev, pick, argE, zipE, ne_eq, eq_self, forall_const, implies_true, if_true, if_false, reduceIte, reduceCtorEq, Nat.reduceEqDiff, Nat.reduceAdd, Nat.reduceLT, ↓us_sl10Read, r_sl10Read, hb4.facts, fRg, e1, hg0, hdT, hnot]
        refine ⟨by decide, fun _ => by decide, m_st hb4 rfl (by decide : 2 + 1 ≤ 7) (fB_one _) ?_⟩
        rintro w5 hb5' hu5
        have hb5 : Blk w5 b (fR s (a + 2 : Nat) true nm mn 0 most) 41 := hb5'
        simp only [↓vsd, vsn, gW, qd, qv, ev, pick, argE, zipE, ne_eq, eq_self, forall_const, implies_true, if_true, if_false, reduceIte, reduceCtorEq, Nat.reduceEqDiff, Nat.reduceAdd, Nat.reduceLT, ↓us_sl10Read, r_sl10Read, hb5.facts, fRg]
        exact ⟨hu5.below hx4 hbw, hbadR (a + 2) most _ _ w5 [] (by decide) hb5 hpn⟩
    · rw [if_neg hd1] at hR
      have hno : ¬ ((a : Int) + 1 < s.length ∧ ((s.getD (a + 1) 0).toNat : Int) = 61) := by omega
      simp only [↓vsd, vsn, gW, qd, qv, ev, pick, argE, zipE, ne_eq, eq_self, forall_const, implies_true, if_true, if_false, reduceIte, reduceCtorEq, Nat.reduceEqDiff, Nat.reduceAdd, Nat.reduceLT, ↓us_sl10Read, r_sl10Read, hb3.facts, fRg, hno]
      refine ⟨inR_i64 (by omega), fun _ => inR_i64 (by omega), fun _ => by omega, m_callw (.inl rfl) (sl10R_block_ok 1000 s kn nm mn mns 0 most a b w3 (by omega) has hs200 (by omega) hmo (by omega) hkn hq hb3) ?_⟩
      rintro _ w4 ⟨a4, most4, bad4, o4, rfl, hb4, hg4, ha4, hal4, hmm4, hol4, hR4⟩
      have hx4 : Ext w w4 := Below.trans hx3 ⟨hg4.os, hg4.tape, hg4.output, hg4.size, fun i hi => hg4.block i (by have := hx3.size; omega) (fun e => by have := Option.some.inj e; omega)⟩
      have ho4 := ho3.keep hg4 (fun c hc => by have := Option.some.inj hc; omega)
      simp only [↓vsd, vsn, gW, qd, qv, ev, pick, argE, zipE, ne_eq, eq_self, forall_const, implies_true, if_true, if_false, reduceIte, reduceCtorEq, Nat.reduceEqDiff, Nat.reduceAdd, Nat.reduceLT, ↓us_sl10Read, r_sl10Read, hb4.facts, fRg]
      refine ⟨fun hne => m_st hb4 rfl (by decide : 2 + 1 ≤ 7) (fB_one _) ?_, fun he => ⟨hx4, ?_⟩⟩
      · rintro w5 hb5' hu5
        have hb5 : Blk w5 b (fR s a4 true nm mn 0 most4) 41 := hb5'
        have hpn : progL s = none := by
          rw [progL, if_pos hs200, ← hR]
          cases hbl : blk s kn 1000 a [] false 0 most with
          | none => rfl
          | some p =>
            obtain ⟨part, a5, most5⟩ := p
            rw [hbl] at hR4
            obtain ⟨_, rfl, _, _⟩ := hR4
            simp only
            rw [if_neg (by omega)]
        simp only [↓vsd, vsn, gW, qd, qv, ev, pick, argE, zipE, ne_eq, eq_self, forall_const, implies_true, if_true, if_false, reduceIte, reduceCtorEq, Nat.reduceEqDiff, Nat.reduceAdd, Nat.reduceLT, ↓us_sl10Read, r_sl10Read]
        exact ⟨hu5.below hx4 hbw, hbadR a4 most4 _ _ w5 o4 (by omega) hb5 hpn⟩
      · cases hbl : blk s kn 1000 a [] false 0 most with
        | none =>
          rw [hbl] at hR4 hR
          simp only at hR4
          subst hR4
          exact hbadR a4 most4 _ _ w4 o4 (by omega) hb4 (by rw [progL, if_pos hs200, ← hR])
        | some p =>
          obtain ⟨part, a5, most5⟩ := p
          rw [hbl] at hR4 hR
          obtain ⟨rfl, rfl, rfl, hpt⟩ := hR4
          simp only at hR
          rw [if_pos (by omega)] at hR
          refine ⟨b, o4, false, a4, most4, nm, mn, rfl, hb4, by omega, ?_⟩
          rw [progL, if_pos hs200, ← hR]
          exact ⟨rfl, hpt, rfl, by omega, own_mono ho4 (by omega)⟩
theorem touch_take (l : List UInt8) : (IsTouch l ↔ IsTouch (l.take 61)) ∧ (IsTouch l → l.take 61 = l) := by
  by_cases h : l.length ≤ 60
  · rw [List.take_of_length_le (by omega)]
    exact ⟨Iff.rfl, fun _ => rfl⟩
  · have h1 : ¬ IsTouch l := fun ht => by have := ht.1; omega
    have h2 : ¬ IsTouch (l.take 61) := fun ht => by have := ht.1; rw [List.length_take] at this; omega
    exact ⟨⟨fun ht => absurd ht h1, fun ht => absurd ht h2⟩, fun ht => absurd ht h1⟩
theorem sIsWords_ok (s : List UInt8) (hs : s.length ≤ 1048576) (w : World) : Fn 16 [S s] w (fun r _ => r = .bool (progL s).isSome) := by
  (refine callsV_of mix Tryd.func16 c_sIsWords ?_; simp only [↓vsd, vsn, gW, qd, qv, ev, pick, argE, zipE, ne_eq, eq_self, forall_const, implies_true, if_true, if_false, reduceIte, reduceCtorEq, Nat.reduceEqDiff, Nat.reduceAdd, Nat.reduceLT, ↓us_sIsWords, r_sIsWords])
  refine m_call (sl10Read_ok s hs _) ?_
  rintro _ w1 hx1 ⟨b, out, bad, a, most, nm, mn, rfl, hb, hol, hR⟩
  simp only [↓vsd, vsn, gW, qd, qv, ev, pick, argE, zipE, ne_eq, eq_self, forall_const, implies_true, if_true, if_false, reduceIte, reduceCtorEq, Nat.reduceEqDiff, Nat.reduceAdd, Nat.reduceLT, ↓us_sIsWords, r_sIsWords, hb.facts, fRg]
  refine ⟨hx1, ?_⟩
  cases hp : progL s with
  | none => rw [hp] at hR; rw [hR]; rfl
  | some p => obtain ⟨o, kn, m⟩ := p; rw [hp] at hR; rw [hR.1]; rfl
theorem sDepthOf_ok (s : List UInt8) (hs : s.length ≤ 1048576) (w : World) : Fn 10 [S s] w (fun r _ => r = match progL s with | none => .tuple ⟨[.int .i64 0, .bool false]⟩ | some p => .tuple ⟨[.int .i64 (p.2.2 : Nat), .bool true]⟩) := by
  (refine callsV_of mix Tryd.func10 c_sDepthOf ?_; simp only [↓vsd, vsn, gW, qd, qv, ev, pick, argE, zipE, ne_eq, eq_self, forall_const, implies_true, if_true, if_false, reduceIte, reduceCtorEq, Nat.reduceEqDiff, Nat.reduceAdd, Nat.reduceLT, ↓us_sDepthOf, r_sDepthOf])
  refine m_call (sl10Read_ok s hs _) ?_
  rintro _ w1 hx1 ⟨b, out, bad, a, most, nm, mn, rfl, hb, hol, hR⟩
  cases hp : progL s with
  | none =>
    rw [hp] at hR
    subst hR
    simp only [↓vsd, vsn, gW, qd, qv, ev, pick, argE, zipE, ne_eq, eq_self, forall_const, implies_true, if_true, if_false, reduceIte, reduceCtorEq, Nat.reduceEqDiff, Nat.reduceAdd, Nat.reduceLT, ↓us_sDepthOf, r_sDepthOf, hb.facts, fRg]
    exact hx1
  | some p =>
    obtain ⟨o, kn, m⟩ := p
    rw [hp] at hR
    obtain ⟨rfl, _, rfl, _⟩ := hR
    simp only [↓vsd, vsn, gW, qd, qv, ev, pick, argE, zipE, ne_eq, eq_self, forall_const, implies_true, if_true, if_false, reduceIte, reduceCtorEq, Nat.reduceEqDiff, Nat.reduceAdd, Nat.reduceLT, ↓us_sDepthOf, r_sDepthOf, hb.facts, fRg]
    exact hx1
theorem sCompileWords_ok (s : List UInt8) (hs : s.length ≤ 1048576) (w : World) : Fn 6 [S s] w (fun r _ => r = match progL s with | none => .tuple ⟨[S [], .bool false]⟩ | some p => if IsTouch p.1 then .tuple ⟨[S p.1, .bool true]⟩ else .tuple ⟨[S [], .bool false]⟩) := by
  (refine callsV_of mix Tryd.func6 c_sCompileWords ?_; simp only [↓vsd, vsn, gW, qd, qv, ev, pick, argE, zipE, ne_eq, eq_self, forall_const, implies_true, if_true, if_false, reduceIte, reduceCtorEq, Nat.reduceEqDiff, Nat.reduceAdd, Nat.reduceLT, ↓us_sCompileWords, r_sCompileWords])
  refine m_call (sl10Read_ok s hs _) ?_
  rintro _ w1 hx1 ⟨b, out, bad, a, most, nm, mn, rfl, hb, hol, hR⟩
  cases hp : progL s with
  | none =>
    rw [hp] at hR
    subst hR
    simp only [↓vsd, vsn, gW, qd, qv, ev, pick, argE, zipE, ne_eq, eq_self, forall_const, implies_true, if_true, if_false, reduceIte, reduceCtorEq, Nat.reduceEqDiff, Nat.reduceAdd, Nat.reduceLT, ↓us_sCompileWords, r_sCompileWords, hb.facts, fRg]
    exact hx1
  | some p =>
    obtain ⟨o, kn, m⟩ := p
    rw [hp] at hR
    obtain ⟨rfl, rfl, rfl, _⟩ := hR
    simp only [↓vsd, vsn, gW, qd, qv, ev, pick, argE, zipE, ne_eq, eq_self, forall_const, implies_true, if_true, if_false, reduceIte, reduceCtorEq, Nat.reduceEqDiff, Nat.reduceAdd, Nat.reduceLT, ↓us_sCompileWords, r_sCompileWords, hb.facts, fRg]
    refine m_call (sl9Good_ok out (by omega) _) ?_
    rintro _ w2 hx2 rfl
    obtain ⟨h1, h2⟩ := touch_take out
    by_cases ht : IsTouch out
    · simp only [↓vsd, vsn, gW, qd, qv, ev, pick, argE, zipE, ne_eq, eq_self, forall_const, implies_true, if_true, if_false, reduceIte, reduceCtorEq, Nat.reduceEqDiff, Nat.reduceAdd, Nat.reduceLT, ↓us_sCompileWords, r_sCompileWords, ht]
      rw [if_pos (h1.1 ht), h2 ht]
      exact ⟨hx1.trans hx2, rfl⟩
    · simp only [↓vsd, vsn, gW, qd, qv, ev, pick, argE, zipE, ne_eq, eq_self, forall_const, implies_true, if_true, if_false, reduceIte, reduceCtorEq, Nat.reduceEqDiff, Nat.reduceAdd, Nat.reduceLT, ↓us_sCompileWords, r_sCompileWords, ht]
      rw [if_neg (fun h => ht (h1.2 h))]
      exact ⟨hx1.trans hx2, rfl⟩
theorem sNamesIn_ok (s : List UInt8) (hs : s.length ≤ 1048576) (w : World) : Fn 8 [S s] w (fun r w' => ∃ x, r = .tuple ⟨[x, .bool (progL s).isSome]⟩ ∧ Own fS 1 9 w.heap.size w' x (match progL s with | none => [] | some p => namesL p.2.1)) := by
  (refine callsV_of mix Tryd.func8 c_sNamesIn ?_; simp only [↓vsd, vsn, gW, qd, qv, ev, pick, argE, zipE, ne_eq, eq_self, forall_const, implies_true, if_true, if_false, reduceIte, reduceCtorEq, Nat.reduceEqDiff, Nat.reduceAdd, Nat.reduceLT, ↓us_sNamesIn, r_sNamesIn])
  refine m_call (sl10Read_ok s hs _) ?_
  rintro _ w1 hx1 ⟨b, out, bad, a, most, nm, mn, rfl, hb, hol, hR⟩
  cases hp : progL s with
  | none =>
    rw [hp] at hR
    subst hR
    simp only [↓vsd, vsn, gW, qd, qv, ev, pick, argE, zipE, ne_eq, eq_self, forall_const, implies_true, if_true, if_false, reduceIte, reduceCtorEq, Nat.reduceEqDiff, Nat.reduceAdd, Nat.reduceLT, ↓us_sNamesIn, r_sNamesIn, hb.facts, fRg]
    refine ⟨hx1, _, rfl, ?_⟩
    exact Own.nil fS_len
  | some p =>
    obtain ⟨o, kn, m⟩ := p
    rw [hp] at hR
    obtain ⟨rfl, _, rfl, _, ho⟩ := hR
    simp only [↓vsd, vsn, gW, qd, qv, ev, pick, argE, zipE, ne_eq, eq_self, forall_const, implies_true, if_true, if_false, reduceIte, reduceCtorEq, Nat.reduceEqDiff, Nat.reduceAdd, Nat.reduceLT, ↓us_sNamesIn, r_sNamesIn, hb.facts, fRg]
    exact ⟨hx1, _, rfl, ho⟩
end Go.Proofs.YtnbnofmnbopknaaDoor
