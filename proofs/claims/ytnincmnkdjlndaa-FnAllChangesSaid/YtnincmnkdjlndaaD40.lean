/-
  Draws of stages and of two rows; the call of the law FnAllChanges.
  Conditions: none.
-/
import Derived.Test.YtnincmnkdjlndaaA70
import Derived.Test.YtnincmnkdjlndaaA36
set_option linter.unusedSimpArgs false
set_option linter.unusedVariables false
set_option linter.defProp false
namespace Go.Proofs.Ytnincmnkdjlndaa
open Go Go.RowKit
section
variable (P : Program) (k : KT) (e : Env) (w : World)
abbrev b83_1 : X := (.seq (.reg [2] (.c (.q 3 [] (.mv (.t 0))) (.c (.e (some 4) [] (.call false 205 [(.t 3)])) (.c (.q 2 [] (.mv (.t 4))) .nil)))) .ret)
def t83_1 := b83_1
theorem u83_1 : vcK P t83_1 k e w = vcK P b83_1 k e w := rfl
abbrev b83_0 : X := (.seq (.reg [0] (.c (.q 2 [] (.mv (.c (.int .i64 0)))) .nil)) t83_1)
def x_sDrawAllChanges := b83_0
theorem u83_0 : vcK P x_sDrawAllChanges k e w = vcK P b83_0 k e w := rfl
def r_sDrawAllChanges : List XO := [(.mv (.t 2))]
theorem c_sDrawAllChanges : convF Try.prog [147, 148, 152, 160, 162, 163, 170, 178, 206, 208, 210, 224, 233, 235, 236, 251, 264, 265, 268, 270, 287, 322] Try.f83 [([0], []), ([2], [])] = some (x_sDrawAllChanges, r_sDrawAllChanges) := by kernel_rfl
def us_sDrawAllChanges :=  (aI @u83_0 @u83_1)
abbrev b86_1 : X := (.cond (.t 17) (.seq (.reg [2, 3] (.c (.q 18 [] (.mv (.t 5))) (.c (.q 19 [] (.mv (.t 5))) (.c (.q 20 [] (.mv (.t 4))) (.c (.q 21 [] (.mv (.t 5))) (.c (.q 22 [] (.len (.t 21))) (.c (.e (some 23) [] (.call true 210 [(.t 20), (.t 22)])) (.c (.e (some 24) [] (.call false 209 [(.t 19), (.t 23)])) (.c (.q 2 [] (.mv (.t 18))) (.c (.q 3 [] (.mv (.t 24))) .nil)))))))))) .ret) .skip)
def t86_1 := b86_1
theorem u86_1 : vcK P t86_1 k e w = vcK P b86_1 k e w := rfl
abbrev b86_2 : X := (.seq (.reg [2, 3] (.c (.q 25 [] (.mv (.t 0))) (.c (.e (some 26) [] (.call false 211 [(.t 25)])) (.c (.q 27 [] (.ext 0 (.t 26))) (.c (.q 28 [] (.ext 1 (.t 26))) (.c (.q 2 [] (.mv (.t 27))) (.c (.q 3 [] (.mv (.t 28))) .nil))))))) .ret)
def t86_2 := b86_2
theorem u86_2 : vcK P t86_2 k e w = vcK P b86_2 k e w := rfl
abbrev b86_3 : X := (.seq (.seq (.reg [0, 4, 5, 17] (.c (.q 11 [] (.mv (.t 5))) (.c (.e (some 12) [] (.call false 151 [(.t 11)])) (.c (.q 13 [] (.mv (.t 12))) (.c (.q 14 [(13, true)] (.mv (.t 4))) (.c (.e (some 15) [(13, true)] (.call true 160 [(.t 14), (.c (.int .i64 4))])) (.c (.q 16 [(13, true)] (.not (.t 15))) (.c (.q 17 [] (.pick (.t 13) (.t 16) (.c (.bool false)))) .nil)))))))) t86_1) t86_2)
def t86_3 := b86_3
theorem u86_3 : vcK P t86_3 k e w = vcK P b86_3 k e w := rfl
abbrev b86_4 : X := (.seq (.reg [0, 4, 5] (.c (.q 9 [] (.mv (.t 4))) (.c (.e (some 10) [] (.call true 208 [(.t 9)])) (.c (.q 5 [] (.mv (.t 10))) .nil)))) t86_3)
def t86_4 := b86_4
theorem u86_4 : vcK P t86_4 k e w = vcK P b86_4 k e w := rfl
abbrev b86_5 : X := (.seq (.reg [0, 4] (.c (.q 6 [] (.mv (.t 0))) (.c (.q 7 [] (.bld [(.slice none 0 0), (.int .i64 0), (.int .u64 0)] [(0, 0, (.t 6))])) (.c (.e (some 8) [] (.box 121 (.t 7))) (.c (.q 4 [] (.mv (.t 8))) .nil))))) t86_4)
def t86_5 := b86_5
theorem u86_5 : vcK P t86_5 k e w = vcK P b86_5 k e w := rfl
abbrev b86_0 : X := (.seq (.reg [0] (.c (.q 2 [] (.mv (.s []))) (.c (.q 3 [] (.mv (.s []))) .nil))) t86_5)
def x_sDrawBetweenRows := b86_0
theorem u86_0 : vcK P x_sDrawBetweenRows k e w = vcK P b86_0 k e w := rfl
def r_sDrawBetweenRows : List XO := [(.mv (.t 2)), (.mv (.t 3))]
theorem c_sDrawBetweenRows : convF Try.prog [147, 148, 152, 160, 162, 163, 170, 178, 206, 208, 210, 224, 233, 235, 236, 251, 264, 265, 268, 270, 287, 322] Try.f86 [([0], []), ([0, 4], []), ([0, 4, 5], []), ([0, 4, 5, 17], []), ([2, 3], []), ([2, 3], [])] = some (x_sDrawBetweenRows, r_sDrawBetweenRows) := by kernel_rfl
def us_sDrawBetweenRows :=  (aI (aI @u86_0 (aI @u86_1 @u86_2)) (aI @u86_3 (aI @u86_4 @u86_5)))
abbrev b8_1 : X := (.cond (.t 28) (.seq (.reg [4] (.c (.q 4 [] (.mv (.c (.bool true)))) .nil)) .ret) .skip)
def t8_1 := b8_1
theorem u8_1 : vcK P t8_1 k e w = vcK P b8_1 k e w := rfl
abbrev b8_2 : X := (.cond (.t 49) (.seq (.reg [4] (.c (.q 4 [] (.mv (.c (.bool false)))) .nil)) .ret) .skip)
def t8_2 := b8_2
theorem u8_2 : vcK P t8_2 k e w = vcK P b8_2 k e w := rfl
abbrev b8_3 : X := (.cond (.t 74) (.seq (.reg [4] (.c (.q 4 [] (.mv (.c (.bool false)))) .nil)) .ret) .skip)
def t8_3 := b8_3
theorem u8_3 : vcK P t8_3 k e w = vcK P b8_3 k e w := rfl
abbrev b8_4 : X := (.seq (.reg [1, 5, 6, 51, 52, 53, 74] (.c (.q 58 [] (.mv (.t 5))) (.c (.q 59 [] (.mv (.t 11))) (.c (.e (some 60) [] (.call false 41 [(.t 58), (.t 59)])) (.c (.q 61 [] (.not (.t 60))) (.c (.q 62 [] (.mv (.t 61))) (.c (.q 63 [(62, false)] (.mv (.t 10))) (.c (.q 64 [(62, false)] (.bin .gtr (.t 63) (.c (.int .i64 0)))) (.c (.q 65 [(62, false)] (.mv (.t 64))) (.c (.q 66 [(65, true), (62, false)] (.mv (.t 6))) (.c (.q 67 [(65, true), (62, false)] (.mv (.t 10))) (.c (.q 68 [(65, true), (62, false)] (.bin .sub (.t 67) (.c (.int .i64 1)))) (.c (.q 69 [(65, true), (62, false)] (.ia 1 (.t 66) (.t 68))) (.c (.q 70 [(65, true), (62, false)] (.ld (.t 69))) (.c (.q 71 [(65, true), (62, false)] (.mv (.t 11))) (.c (.q 72 [(65, true), (62, false)] (.bin .geq (.t 70) (.t 71))) (.c (.q 73 [(62, false)] (.pick (.t 65) (.t 72) (.c (.bool false)))) (.c (.q 74 [] (.pick (.t 62) (.c (.bool true)) (.t 73))) .nil)))))))))))))))))) t8_3)
def t8_4 := b8_4
theorem u8_4 : vcK P t8_4 k e w = vcK P b8_4 k e w := rfl
abbrev b8_5 : X := (.reg [1, 5, 6, 51, 52, 53] (.c (.q 75 [] (.bin .add (.t 53) (.c (.int .i64 1)))) (.c (.q 53 [] (.mv (.t 75))) .nil)))
def t8_5 := b8_5
theorem u8_5 : vcK P t8_5 k e w = vcK P b8_5 k e w := rfl
abbrev b8_6 : X := (.seq (.blk 1 (.seq (.reg [1, 5, 6, 10, 11, 51, 52, 53] (.c (.q 55 [] (.mv (.t 53))) (.c (.q 56 [] (.ia 1 (.t 51) (.t 53))) (.c (.q 57 [] (.ld (.t 56))) (.c (.q 10 [] (.mv (.t 55))) (.c (.q 11 [] (.mv (.t 57))) .nil)))))) t8_4)) t8_5)
def t8_6 := b8_6
theorem u8_6 : vcK P t8_6 k e w = vcK P b8_6 k e w := rfl
abbrev b8_7 : X := (.seq (.cond (.t 54) .skip (.exit 0)) t8_6)
def t8_7 := b8_7
theorem u8_7 : vcK P t8_7 k e w = vcK P b8_7 k e w := rfl
abbrev b8_8 : X := (.seq (.reg [1, 5, 6, 51, 52, 53, 54] (.c (.q 54 [] (.bin .lss (.t 53) (.t 52))) .nil)) t8_7)
def t8_8 := b8_8
theorem u8_8 : vcK P t8_8 k e w = vcK P b8_8 k e w := rfl
abbrev b8_9 : X := (.blk 0 (.loop [53] [1, 5, 6, 51, 52] t8_8))
def t8_9 := b8_9
theorem u8_9 : vcK P t8_9 k e w = vcK P b8_9 k e w := rfl
abbrev b8_10 : X := (.cond (.t 102) (.seq (.reg [4] (.c (.q 4 [] (.mv (.c (.bool false)))) .nil)) .ret) .skip)
def t8_10 := b8_10
theorem u8_10 : vcK P t8_10 k e w = vcK P b8_10 k e w := rfl
abbrev b8_11 : X := (.seq (.reg [1, 102] (.c (.q 88 [] (.mv (.t 13))) (.c (.q 89 [] (.mv (.t 88))) (.c (.q 90 [(89, true)] (.mv (.t 15))) (.c (.q 91 [] (.pick (.t 89) (.t 90) (.c (.bool false)))) (.c (.q 92 [] (.mv (.t 91))) (.c (.q 93 [(92, true)] (.mv (.t 6))) (.c (.q 94 [(92, true)] (.lens (.t 93))) (.c (.q 95 [(92, true)] (.mv (.t 12))) (.c (.q 96 [(92, true)] (.lens (.t 95))) (.c (.q 97 [(92, true)] (.mv (.t 14))) (.c (.q 98 [(92, true)] (.lens (.t 97))) (.c (.q 99 [(92, true)] (.bin .add (.t 96) (.t 98))) (.c (.q 100 [(92, true)] (.bin .add (.t 99) (.c (.int .i64 1)))) (.c (.q 101 [(92, true)] (.bin .neq (.t 94) (.t 100))) (.c (.q 102 [] (.pick (.t 92) (.t 101) (.c (.bool false)))) .nil)))))))))))))))) t8_10)
def t8_11 := b8_11
theorem u8_11 : vcK P t8_11 k e w = vcK P b8_11 k e w := rfl
abbrev b8_12 : X := (.seq (.reg [1, 6, 12, 13, 14, 15] (.c (.q 83 [] (.mv (.t 5))) (.c (.q 84 [] (.bin .sub (.t 83) (.c (.int .i64 2)))) (.c (.e (some 85) [] (.call false 84 [(.t 84)])) (.c (.q 82 [] (.mv (.t 85))) (.c (.q 86 [] (.ext 0 (.t 82))) (.c (.q 87 [] (.ext 1 (.t 82))) (.c (.q 14 [] (.mv (.t 86))) (.c (.q 15 [] (.mv (.t 87))) .nil))))))))) t8_11)
def t8_12 := b8_12
theorem u8_12 : vcK P t8_12 k e w = vcK P b8_12 k e w := rfl
abbrev b8_13 : X := (.seq (.reg [1, 5, 6, 12, 13] (.c (.q 77 [] (.mv (.t 5))) (.c (.q 78 [] (.bin .sub (.t 77) (.c (.int .i64 1)))) (.c (.e (some 79) [] (.call false 84 [(.t 78)])) (.c (.q 76 [] (.mv (.t 79))) (.c (.q 80 [] (.ext 0 (.t 76))) (.c (.q 81 [] (.ext 1 (.t 76))) (.c (.q 12 [] (.mv (.t 80))) (.c (.q 13 [] (.mv (.t 81))) .nil))))))))) t8_12)
def t8_13 := b8_13
theorem u8_13 : vcK P t8_13 k e w = vcK P b8_13 k e w := rfl
abbrev b8_14 : X := (.cond (.t 50) (.seq (.seq (.reg [1, 5, 6, 51, 52, 53] (.c (.q 51 [] (.mv (.t 6))) (.c (.q 52 [] (.lens (.t 51))) (.c (.q 53 [] (.mv (.c (.int .i64 0)))) .nil)))) t8_9) t8_13) .skip)
def t8_14 := b8_14
theorem u8_14 : vcK P t8_14 k e w = vcK P b8_14 k e w := rfl
abbrev b8_15 : X := (.cond (.t 127) (.seq (.reg [4] (.c (.q 4 [] (.mv (.c (.bool false)))) .nil)) .ret) .skip)
def t8_15 := b8_15
theorem u8_15 : vcK P t8_15 k e w = vcK P b8_15 k e w := rfl
abbrev b8_16 : X := (.seq (.reg [4] (.c (.q 141 [] (.mv (.t 23))) (.c (.q 142 [] (.mv (.t 141))) (.c (.q 143 [(142, true)] (.mv (.t 22))) (.c (.q 144 [(142, true)] (.mv (.t 17))) (.c (.q 145 [(142, true)] (.bin .eql (.t 143) (.t 144))) (.c (.q 146 [] (.pick (.t 142) (.t 145) (.c (.bool false)))) (.c (.q 147 [] (.mv (.t 146))) (.c (.q 148 [(147, true)] (.mv (.t 25))) (.c (.q 149 [] (.pick (.t 147) (.t 148) (.c (.bool false)))) (.c (.q 150 [] (.mv (.t 149))) (.c (.q 151 [(150, true)] (.mv (.t 24))) (.c (.q 152 [(150, true)] (.mv (.t 18))) (.c (.q 153 [(150, true)] (.bin .eql (.t 151) (.t 152))) (.c (.q 154 [] (.pick (.t 150) (.t 153) (.c (.bool false)))) (.c (.q 4 [] (.mv (.t 154))) .nil)))))))))))))))) .ret)
def t8_16 := b8_16
theorem u8_16 : vcK P t8_16 k e w = vcK P b8_16 k e w := rfl
abbrev b8_17 : X := (.seq (.reg [17, 18, 22, 23, 24, 25] (.c (.q 136 [] (.mv (.t 17))) (.c (.q 137 [] (.mv (.t 16))) (.c (.e (some 138) [] (.call false 87 [(.t 136), (.t 137)])) (.c (.q 135 [] (.mv (.t 138))) (.c (.q 139 [] (.ext 0 (.t 135))) (.c (.q 140 [] (.ext 1 (.t 135))) (.c (.q 24 [] (.mv (.t 139))) (.c (.q 25 [] (.mv (.t 140))) .nil))))))))) t8_16)
def t8_17 := b8_17
theorem u8_17 : vcK P t8_17 k e w = vcK P b8_17 k e w := rfl
abbrev b8_18 : X := (.cond (.t 128) (.seq (.reg [16, 17, 18, 22, 23] (.c (.q 130 [] (.mv (.t 16))) (.c (.q 131 [] (.mv (.t 18))) (.c (.e (some 132) [] (.call false 89 [(.t 130), (.t 131)])) (.c (.q 129 [] (.mv (.t 132))) (.c (.q 133 [] (.ext 0 (.t 129))) (.c (.q 134 [] (.ext 1 (.t 129))) (.c (.q 22 [] (.mv (.t 133))) (.c (.q 23 [] (.mv (.t 134))) .nil))))))))) t8_17) .skip)
def t8_18 := b8_18
theorem u8_18 : vcK P t8_18 k e w = vcK P b8_18 k e w := rfl
abbrev b8_19 : X := (.seq (.reg [4] (.c (.q 4 [] (.mv (.c (.bool true)))) .nil)) .ret)
def t8_19 := b8_19
theorem u8_19 : vcK P t8_19 k e w = vcK P b8_19 k e w := rfl
abbrev b8_20 : X := (.seq (.seq (.reg [16, 17, 18, 128] (.c (.q 128 [] (.mv (.t 19))) .nil)) t8_18) t8_19)
def t8_20 := b8_20
theorem u8_20 : vcK P t8_20 k e w = vcK P b8_20 k e w := rfl
abbrev b8_21 : X := (.seq (.seq (.reg [16, 17, 18, 19, 127] (.c (.q 120 [] (.mv (.t 19))) (.c (.q 121 [] (.mv (.t 21))) (.c (.q 122 [] (.beq true (.t 120) (.t 121))) (.c (.q 123 [] (.mv (.t 122))) (.c (.q 124 [(123, false)] (.mv (.t 18))) (.c (.q 125 [(123, false)] (.mv (.t 20))) (.c (.q 126 [(123, false)] (.bin .neq (.t 124) (.t 125))) (.c (.q 127 [] (.pick (.t 123) (.c (.bool true)) (.t 126))) .nil))))))))) t8_15) t8_20)
def t8_21 := b8_21
theorem u8_21 : vcK P t8_21 k e w = vcK P b8_21 k e w := rfl
abbrev b8_22 : X := (.seq (.reg [16, 17, 18, 19, 20, 21] (.c (.q 115 [] (.mv (.t 16))) (.c (.q 116 [] (.mv (.t 17))) (.c (.e (some 117) [] (.call false 88 [(.t 115), (.t 116)])) (.c (.q 114 [] (.mv (.t 117))) (.c (.q 118 [] (.ext 0 (.t 114))) (.c (.q 119 [] (.ext 1 (.t 114))) (.c (.q 20 [] (.mv (.t 118))) (.c (.q 21 [] (.mv (.t 119))) .nil))))))))) t8_21)
def t8_22 := b8_22
theorem u8_22 : vcK P t8_22 k e w = vcK P b8_22 k e w := rfl
abbrev b8_23 : X := (.seq (.reg [16, 17, 18, 19] (.c (.q 109 [] (.mv (.t 16))) (.c (.q 110 [] (.mv (.t 17))) (.c (.e (some 111) [] (.call false 87 [(.t 109), (.t 110)])) (.c (.q 108 [] (.mv (.t 111))) (.c (.q 112 [] (.ext 0 (.t 108))) (.c (.q 113 [] (.ext 1 (.t 108))) (.c (.q 18 [] (.mv (.t 112))) (.c (.q 19 [] (.mv (.t 113))) .nil))))))))) t8_22)
def t8_23 := b8_23
theorem u8_23 : vcK P t8_23 k e w = vcK P b8_23 k e w := rfl
abbrev b8_24 : X := (.seq (.reg [16, 17] (.c (.q 104 [] (.mv (.t 1))) (.c (.e (some 105) [] (.call false 86 [(.t 104)])) (.c (.q 103 [] (.mv (.t 105))) (.c (.q 106 [] (.ext 0 (.t 103))) (.c (.q 107 [] (.ext 1 (.t 103))) (.c (.q 16 [] (.mv (.t 106))) (.c (.q 17 [] (.mv (.t 107))) .nil)))))))) t8_23)
def t8_24 := b8_24
theorem u8_24 : vcK P t8_24 k e w = vcK P b8_24 k e w := rfl
abbrev b8_25 : X := (.seq (.seq (.reg [1, 5, 6, 50] (.c (.q 50 [] (.mv (.t 7))) .nil)) t8_14) t8_24)
def t8_25 := b8_25
theorem u8_25 : vcK P t8_25 k e w = vcK P b8_25 k e w := rfl
abbrev b8_26 : X := (.seq (.seq (.reg [1, 5, 6, 7, 49] (.c (.q 41 [] (.mv (.t 7))) (.c (.q 42 [] (.mv (.t 9))) (.c (.q 43 [] (.beq true (.t 41) (.t 42))) (.c (.q 44 [] (.mv (.t 43))) (.c (.q 45 [(44, false)] (.mv (.t 6))) (.c (.q 46 [(44, false)] (.mv (.t 8))) (.c (.e (some 47) [(44, false)] (.call false 23 [(.t 45), (.t 46)])) (.c (.q 48 [(44, false)] (.not (.t 47))) (.c (.q 49 [] (.pick (.t 44) (.c (.bool true)) (.t 48))) .nil)))))))))) t8_2) t8_25)
def t8_26 := b8_26
theorem u8_26 : vcK P t8_26 k e w = vcK P b8_26 k e w := rfl
abbrev b8_27 : X := (.seq (.reg [1, 5, 6, 7, 8, 9] (.c (.q 37 [] (.mv (.t 5))) (.c (.e (some 38) [] (.call false 85 [(.t 37)])) (.c (.q 36 [] (.mv (.t 38))) (.c (.q 39 [] (.ext 0 (.t 36))) (.c (.q 40 [] (.ext 1 (.t 36))) (.c (.q 8 [] (.mv (.t 39))) (.c (.q 9 [] (.mv (.t 40))) .nil)))))))) t8_26)
def t8_27 := b8_27
theorem u8_27 : vcK P t8_27 k e w = vcK P b8_27 k e w := rfl
abbrev b8_28 : X := (.seq (.reg [1, 5, 6, 7] (.c (.q 32 [] (.mv (.t 5))) (.c (.e (some 33) [] (.call false 84 [(.t 32)])) (.c (.q 31 [] (.mv (.t 33))) (.c (.q 34 [] (.ext 0 (.t 31))) (.c (.q 35 [] (.ext 1 (.t 31))) (.c (.q 6 [] (.mv (.t 34))) (.c (.q 7 [] (.mv (.t 35))) .nil)))))))) t8_27)
def t8_28 := b8_28
theorem u8_28 : vcK P t8_28 k e w = vcK P b8_28 k e w := rfl
abbrev b8_29 : X := (.seq (.reg [1, 5] (.c (.q 29 [] (.mv (.t 0))) (.c (.e (some 30) [] (.call false 83 [(.t 29)])) (.c (.q 5 [] (.mv (.t 30))) .nil)))) t8_28)
def t8_29 := b8_29
theorem u8_29 : vcK P t8_29 k e w = vcK P b8_29 k e w := rfl
abbrev b8_30 : X := (.seq (.seq (.reg [0, 1, 28] (.c (.q 26 [] (.mv (.t 0))) (.c (.q 27 [] (.mv (.t 1))) (.c (.e (some 28) [] (.call false 14 [(.t 26), (.t 27)])) .nil)))) t8_1) t8_29)
def t8_30 := b8_30
theorem u8_30 : vcK P t8_30 k e w = vcK P b8_30 k e w := rfl
abbrev b8_0 : X := (.seq (.reg [0, 1] (.c (.q 4 [] (.mv (.c (.bool false)))) .nil)) t8_30)
def x_lFnAllChanges := b8_0
theorem u8_0 : vcK P x_lFnAllChanges k e w = vcK P b8_0 k e w := rfl
def r_lFnAllChanges : List XO := [(.mv (.t 4))]
theorem c_lFnAllChanges : convF Try.prog [147, 148, 152, 160, 162, 163, 170, 178, 206, 208, 210, 224, 233, 235, 236, 251, 264, 265, 268, 270, 287, 322] Try.f8 [([0, 1], []), ([0, 1, 28], []), ([4], []), ([1, 5], []), ([1, 5, 6, 7], []), ([1, 5, 6, 7, 8, 9], []), ([1, 5, 6, 7, 49], []), ([4], []), ([1, 5, 6, 50], []), ([1, 5, 6, 51, 52, 53], []), ([53], [1, 5, 6, 51, 52]), ([1, 5, 6, 51, 52, 53, 54], []), ([1, 5, 6, 10, 11, 51, 52, 53], []), ([1, 5, 6, 51, 52, 53, 74], []), ([4], []), ([1, 5, 6, 51, 52, 53], []), ([1, 5, 6, 12, 13], []), ([1, 6, 12, 13, 14, 15], []), ([1, 102], []), ([4], []), ([16, 17], []), ([16, 17, 18, 19], []), ([16, 17, 18, 19, 20, 21], []), ([16, 17, 18, 19, 127], []), ([4], []), ([16, 17, 18, 128], []), ([16, 17, 18, 22, 23], []), ([17, 18, 22, 23, 24, 25], []), ([4], []), ([4], [])] = some (x_lFnAllChanges, r_lFnAllChanges) := by kernel_rfl
def us_lFnAllChanges :=  (aI (aI (aI (aI @u8_0 (aI @u8_1 @u8_2)) (aI (aI @u8_3 @u8_4) (aI @u8_5 @u8_6))) (aI (aI (aI @u8_7 @u8_8) (aI @u8_9 @u8_10)) (aI (aI @u8_11 @u8_12) (aI @u8_13 @u8_14)))) (aI (aI (aI (aI @u8_15 @u8_16) (aI @u8_17 @u8_18)) (aI (aI @u8_19 @u8_20) (aI @u8_21 @u8_22))) (aI (aI (aI @u8_23 @u8_24) (aI @u8_25 @u8_26)) (aI (aI @u8_27 @u8_28) (aI @u8_29 @u8_30)))))
end

theorem app_back {r c : List UInt8} (hr : IsRow r) (h : IsChange r.length c) : applyL (applyL r c) c = r := by
  have hg := chgL_row r.length c hr.1
  have hl := chgL_len r.length c
  rw [applyL, applyL_len, applyL, timesL_assoc _ hg rfl, (chg_inv h).1]
  exact times_rounds hr.1.2
theorem sDrawAllChanges_ok (v : Value) (code : List UInt8) (hl : code.length ≤ 1048576) (w : World) (h : Sq fU 1 w v code) : Fn 83 [v] w (fun r _ => ∃ x : Int, r = .int .i64 x ∧ -1 ≤ x ∧ x ≤ 9) := by
  (refine callsV_of mix Try.func83 c_sDrawAllChanges ?_; simp only [↓vsd, vsn, gW, qd, qv, ev, pick, argE, zipE, ne_eq, eq_self, forall_const, implies_true, if_true, if_false, reduceIte, reduceCtorEq, Nat.reduceEqDiff, Nat.reduceAdd, Nat.reduceLT, ↓us_sDrawAllChanges, r_sDrawAllChanges])
  refine m_call (sDrawRoundsOf_ok v code hl _ h) ?_
  rintro _ w1 hx1 ⟨x, rfl, hx⟩
  simp only [↓vsd, vsn, gW, qd, qv, ev, pick, argE, zipE, ne_eq, eq_self, forall_const, implies_true, if_true, if_false, reduceIte, reduceCtorEq, Nat.reduceEqDiff, Nat.reduceAdd, Nat.reduceLT, ↓us_sDrawAllChanges, r_sDrawAllChanges]
  exact ⟨hx1, x, rfl, hx⟩
theorem sDrawBetweenRows_ok (v : Value) (code : List UInt8) (hl : code.length ≤ 1048576) (w : World) (h : Sq fU 1 w v code) : Fn 86 [v] w (fun r _ => ∃ x y, r = .tuple ⟨[S x, S y]⟩ ∧ x.length ≤ 10 ∧ y.length ≤ 10) := by
  (refine callsV_of mix Try.func86 c_sDrawBetweenRows ?_; simp only [↓vsd, vsn, gW, qd, qv, ev, pick, argE, zipE, ne_eq, eq_self, forall_const, implies_true, if_true, if_false, reduceIte, reduceCtorEq, Nat.reduceEqDiff, Nat.reduceAdd, Nat.reduceLT, ↓us_sDrawBetweenRows, r_sDrawBetweenRows])
  simp only [↓vsd, vsn, gW, qd, qv, ev, pick, argE, zipE, ne_eq, eq_self, forall_const, implies_true, if_true, if_false, reduceIte, reduceCtorEq, Nat.reduceEqDiff, Nat.reduceAdd, Nat.reduceLT, ↓us_sDrawBetweenRows, r_sDrawBetweenRows, h.facts]
  refine m_al ?_
  rintro b w1 hb hblk hx1 hs1
  have hc := Cur.new h hl hb hblk hx1
  simp only [↓vsd, vsn, gW, qd, qv, ev, pick, argE, zipE, ne_eq, eq_self, forall_const, implies_true, if_true, if_false, reduceIte, reduceCtorEq, Nat.reduceEqDiff, Nat.reduceAdd, Nat.reduceLT, ↓us_sDrawBetweenRows, r_sDrawBetweenRows]
  refine m_callw (.inl rfl) (sl1Cur_anyRow_ok w b _ w1 (by omega) hc) ?_
  rintro _ w2 ⟨hc2, hg2, r, rfl, hr10⟩
  simp only [↓vsd, vsn, gW, qd, qv, ev, pick, argE, zipE, ne_eq, eq_self, forall_const, implies_true, if_true, if_false, reduceIte, reduceCtorEq, Nat.reduceEqDiff, Nat.reduceAdd, Nat.reduceLT, ↓us_sDrawBetweenRows, r_sDrawBetweenRows]
  refine m_call (sl1Row_ok r _) ?_
  rintro _ w3 hx3 rfl
  have hc3 := hc2.ext hx3
  by_cases hr : IsRow r
  · simp only [↓vsd, vsn, gW, qd, qv, ev, pick, argE, zipE, ne_eq, eq_self, forall_const, implies_true, if_true, if_false, reduceIte, reduceCtorEq, Nat.reduceEqDiff, Nat.reduceAdd, Nat.reduceLT, ↓us_sDrawBetweenRows, r_sDrawBetweenRows, hr]
    refine m_callw (.inl rfl) (sl1Cur_one_ok w b _ 4 (by omega) w3 (by omega) hc3) ?_
    rintro _ w4 ⟨hc4, hg4, y, rfl⟩
    cases y
    · simp only [↓vsd, vsn, gW, qd, qv, ev, pick, argE, zipE, ne_eq, eq_self, forall_const, implies_true, if_true, if_false, reduceIte, reduceCtorEq, Nat.reduceEqDiff, Nat.reduceAdd, Nat.reduceLT, ↓us_sDrawBetweenRows, r_sDrawBetweenRows]
      refine m_callw (.inl rfl) (sl1Cur_change_ok w b _ r.length hr.1 w4 (by omega) hc4) ?_
      rintro _ w5 ⟨hc5, hg5, x, rfl, hx⟩
      have hxl := hx.len
      simp only [↓vsd, vsn, gW, qd, qv, ev, pick, argE, zipE, ne_eq, eq_self, forall_const, implies_true, if_true, if_false, reduceIte, reduceCtorEq, Nat.reduceEqDiff, Nat.reduceAdd, Nat.reduceLT, ↓us_sDrawBetweenRows, r_sDrawBetweenRows]
      refine m_call (sl2Apply_ok r x hr (by omega) _) ?_
      rintro _ w6 hx6 rfl
      simp only [↓vsd, vsn, gW, qd, qv, ev, pick, argE, zipE, ne_eq, eq_self, forall_const, implies_true, if_true, if_false, reduceIte, reduceCtorEq, Nat.reduceEqDiff, Nat.reduceAdd, Nat.reduceLT, ↓us_sDrawBetweenRows, r_sDrawBetweenRows]
      have hal := applyL_len r x
      exact ⟨(hc5.ext hx6).base, r, applyL r x, rfl, hr10, by omega⟩
    · simp only [↓vsd, vsn, gW, qd, qv, ev, pick, argE, zipE, ne_eq, eq_self, forall_const, implies_true, if_true, if_false, reduceIte, reduceCtorEq, Nat.reduceEqDiff, Nat.reduceAdd, Nat.reduceLT, ↓us_sDrawBetweenRows, r_sDrawBetweenRows]
      have hcz := hc4
      have hxb := hcz.base
      refine m_call (sDrawTimes_ok v code hl _ (h.ext hxb)) ?_
      rintro _ w6 hx6 ⟨x, y, rfl, hx, hy⟩
      simp only [↓vsd, vsn, gW, qd, qv, ev, pick, argE, zipE, ne_eq, eq_self, forall_const, implies_true, if_true, if_false, reduceIte, reduceCtorEq, Nat.reduceEqDiff, Nat.reduceAdd, Nat.reduceLT, ↓us_sDrawBetweenRows, r_sDrawBetweenRows]
      exact ⟨hxb.trans hx6, x, y, rfl, hx, hy⟩
  · simp only [↓vsd, vsn, gW, qd, qv, ev, pick, argE, zipE, ne_eq, eq_self, forall_const, implies_true, if_true, if_false, reduceIte, reduceCtorEq, Nat.reduceEqDiff, Nat.reduceAdd, Nat.reduceLT, ↓us_sDrawBetweenRows, r_sDrawBetweenRows, hr]
    have hcz := hc3
    have hxb := hcz.base
    refine m_call (sDrawTimes_ok v code hl _ (h.ext hxb)) ?_
    rintro _ w6 hx6 ⟨x, y, rfl, hx, hy⟩
    simp only [↓vsd, vsn, gW, qd, qv, ev, pick, argE, zipE, ne_eq, eq_self, forall_const, implies_true, if_true, if_false, reduceIte, reduceCtorEq, Nat.reduceEqDiff, Nat.reduceAdd, Nat.reduceLT, ↓us_sDrawBetweenRows, r_sDrawBetweenRows]
    exact ⟨hxb.trans hx6, x, y, rfl, hx, hy⟩
theorem leads_back {a b c : List UInt8} (h : Leads a b (some c)) : Leads b a (some c) := by
  obtain ⟨⟨ha, hb, hl⟩, hc, rfl⟩ := h
  exact ⟨⟨hb, ha, hl.symm⟩, by rw [← hl]; exact hc, app_back ha hc⟩
theorem leads_apply {a b c : List UInt8} (h : Leads a b (some c)) : aplV a c = .tuple ⟨[S b, .bool true]⟩ := by
  obtain ⟨⟨ha, hb, hl⟩, hc, rfl⟩ := h
  rw [aplV, if_pos ⟨ha, hc⟩]
set_option maxHeartbeats 4000000 in
theorem lFnAllChanges_ok (v u : Value) (code more : List UInt8) (hcl : code.length ≤ 9223372036854775807) (hml : more.length ≤ 9223372036854775807) (w : World) (h : Sq fU 1 w v code) (h' : Sq fU 1 w u more) : Fn 8 [v, u] w (fun r _ => r = .bool true) := by
  (refine callsV_of mix Try.func8 c_lFnAllChanges ?_; simp only [↓vsd, vsn, gW, qd, qv, ev, pick, argE, zipE, ne_eq, eq_self, forall_const, implies_true, if_true, if_false, reduceIte, reduceCtorEq, Nat.reduceEqDiff, Nat.reduceAdd, Nat.reduceLT, ↓us_lFnAllChanges, r_lFnAllChanges])
  refine m_call (lbig_ok v u code more hcl hml _ h h') ?_
  rintro _ w0 hx0 rfl
  simp only [↓vsd, vsn, gW, qd, qv, ev, pick, argE, zipE, ne_eq, eq_self, forall_const, implies_true, if_true, if_false, reduceIte, reduceCtorEq, Nat.reduceEqDiff, Nat.reduceAdd, Nat.reduceLT, ↓us_lFnAllChanges, r_lFnAllChanges]
  refine ⟨fun _ => hx0, fun hsm => ?_⟩
  have hlen : code.length ≤ 1048576 ∧ more.length ≤ 1048576 := by omega
  refine m_call (sDrawAllChanges_ok v code hlen.1 _ (h.ext hx0)) ?_
  rintro _ w1 hx1 ⟨n, rfl, hn1, hn9⟩
  simp only [↓vsd, vsn, gW, qd, qv, ev, pick, argE, zipE, ne_eq, eq_self, forall_const, implies_true, if_true, if_false, reduceIte, reduceCtorEq, Nat.reduceEqDiff, Nat.reduceAdd, Nat.reduceLT, ↓us_lFnAllChanges, r_lFnAllChanges]
  refine m_call (iAllChanges_ok n _) ?_
  rintro r2 w2 hx2 hr2
  by_cases hn : 3 ≤ n ∧ n ≤ 8
  · obtain ⟨k, rfl⟩ : ∃ k : Nat, n = k := ⟨n.toNat, by omega⟩
    have hk38 : 3 ≤ k ∧ k ≤ 8 := by omega
    have hal := allL_some k (by omega) hk38.1
    rw [allV, if_pos hn, Int.toNat_natCast] at hr2
    obtain ⟨x2, rfl, hq2⟩ := hr2
    simp only [↓vsd, vsn, gW, qd, qv, ev, pick, argE, zipE, ne_eq, eq_self, forall_const, implies_true, if_true, if_false, reduceIte, reduceCtorEq, Nat.reduceEqDiff, Nat.reduceAdd, Nat.reduceLT, ↓us_lFnAllChanges, r_lFnAllChanges]
    refine m_call (sAllChanges_ok k _) ?_
    rintro r3 w3 hx3 hr3
    rw [allV, if_pos hn, Int.toNat_natCast] at hr3
    obtain ⟨x3, rfl, hq3⟩ := hr3
    simp only [↓vsd, vsn, gW, qd, qv, ev, pick, argE, zipE, ne_eq, eq_self, forall_const, implies_true, if_true, if_false, reduceIte, reduceCtorEq, Nat.reduceEqDiff, Nat.reduceAdd, Nat.reduceLT, ↓us_lFnAllChanges, r_lFnAllChanges]
    refine m_call (lsameTexts_ok _ _ _ _ _ (hq2.ext hx3) hq3 (by omega)) ?_
    rintro _ w4 hx4 rfl
    have hq4 := (hq2.ext hx3).ext hx4
    have hx04 := (((hx0.trans hx1).trans hx2).trans hx3).trans hx4
    simp only [↓vsd, vsn, gW, qd, qv, ev, pick, argE, zipE, ne_eq, eq_self, forall_const, implies_true, if_true, if_false, reduceIte, reduceCtorEq, Nat.reduceEqDiff, Nat.reduceAdd, Nat.reduceLT, ↓us_lFnAllChanges, r_lFnAllChanges, hq4.facts]
    refine m_upto (allL k).length (fun j vs w' => vs = [.int .i64 j] ∧ Ext w4 w') ⟨rfl, Ext.refl _⟩ ?_
    rintro j vs w5 hj ⟨rfl, hx5⟩
    have hq5 := hq4.ext hx5
    by_cases hlt : j < (allL k).length
    · have hltI : (j : Int) < (allL k).length := by omega
      have hltJ : ¬ ((allL k).length : Int) ≤ j := by omega
      have hat := hq5.at1 [] hlt
      have hchg := allL_change k (by omega) hk38.1 _ (getD_mem [] hlt)
      have hcl := hchg.len
      have hrise : 0 < j → Op.bytesLess ((allL k).getD (j - 1) []) ((allL k).getD j []) = true := fun hj0 => by
        rw [less_lt]; exact decide_eq_true (rise_get (allL_rise k hk38) (j - 1) j (by omega) hlt)
      have hatp := fun hj0 : 0 < j => hq5.at1 [] (show j - 1 < (allL k).length by omega)
      generalize (allL k).getD j [] = c at hat hchg hcl hrise
      simp only [↓vsd, vsn, gW, qd, qv, ev, pick, argE, zipE, ne_eq, eq_self, forall_const, implies_true, if_true, if_false, reduceIte, reduceCtorEq, Nat.reduceEqDiff, Nat.reduceAdd, Nat.reduceLT, ↓us_lFnAllChanges, r_lFnAllChanges, hltI, hltJ, hq5.facts, hat]
      refine ⟨by omega, m_call (iGoodChange_ok k c (by omega) _) ?_⟩
      rintro _ w6 hx6 rfl
      have hx6 : Ext w5 w6 := by first | exact hx6 | exact ud hx6 | exact ud (ud hx6)
      have hD := decide_eq_true hchg
      by_cases hj0 : j = 0
      · subst hj0
        have h0I : ¬ (0 : Int) < ((0 : Nat) : Int) := by decide
        simp only [↓vsd, vsn, gW, qd, qv, ev, pick, argE, zipE, ne_eq, eq_self, forall_const, implies_true, if_true, if_false, reduceIte, reduceCtorEq, Nat.reduceEqDiff, Nat.reduceAdd, Nat.reduceLT, ↓us_lFnAllChanges, r_lFnAllChanges, hD, h0I]
        exact ⟨inR_i64 (by omega), UpTo.next hlt ⟨rfl, hx5.trans hx6⟩⟩
      · have h0I : (0 : Int) < (j : Int) := by omega
        have hr := hrise (by omega)
        have hq6 := hq5.ext hx6
        have a6 := hq6.at1 [] (i := j - 1) (by omega)
        have e1 : (j : Int) - 1 = ((j - 1 : Nat) : Int) := by omega
        generalize (allL k).getD (j - 1) [] = p at *
        simp only [↓vsd, vsn, gW, qd, qv, ev, pick, argE, zipE, ne_eq, eq_self, forall_const, implies_true, if_true, if_false, reduceIte, reduceCtorEq, Nat.reduceEqDiff, Nat.reduceAdd, Nat.reduceLT, ↓us_lFnAllChanges, r_lFnAllChanges, hD, h0I, hq6.facts, e1, a6, hr]
        exact ⟨inR_i64 (by omega), by omega, inR_i64 (by omega), UpTo.next hlt ⟨rfl, by first | exact hx5.trans hx6 | exact dr (hx5.trans hx6)⟩⟩
    · obtain rfl : j = (allL k).length := by omega
      have hltI : ¬ ((allL k).length : Int) < (allL k).length := by omega
      have e1 : (k : Int) - 1 = ((k - 1 : Nat) : Int) := by omega
      have e2 : (k : Int) - 2 = ((k - 2 : Nat) : Int) := by omega
      simp only [↓vsd, vsn, gW, qd, qv, ev, pick, argE, zipE, ne_eq, eq_self, forall_const, implies_true, if_true, if_false, reduceIte, reduceCtorEq, Nat.reduceEqDiff, Nat.reduceAdd, Nat.reduceLT, ↓us_lFnAllChanges, r_lFnAllChanges, hltI, e1]
      refine ⟨inR_i64 (by omega), m_call (iAllChanges_ok ((k - 1 : Nat) : Int) _) ?_⟩
      rintro r6 w6 hx6 hr6
      have hx6 : Ext w5 w6 := by first | exact hx6 | exact ud hx6 | exact ud (ud hx6)
      by_cases h4 : 4 ≤ k
      · rw [allV, if_pos ⟨by omega, by omega⟩, Int.toNat_natCast] at hr6
        obtain ⟨x6, rfl, hq6⟩ := hr6
        simp only [↓vsd, vsn, gW, qd, qv, ev, pick, argE, zipE, ne_eq, eq_self, forall_const, implies_true, if_true, if_false, reduceIte, reduceCtorEq, Nat.reduceEqDiff, Nat.reduceAdd, Nat.reduceLT, ↓us_lFnAllChanges, r_lFnAllChanges, e2]
        refine ⟨inR_i64 (by omega), m_call (iAllChanges_ok ((k - 2 : Nat) : Int) _) ?_⟩
        rintro r7 w7 hx7 hr7
        have hx7 : Ext w6 w7 := by first | exact hx7 | exact ud hx7 | exact ud (ud hx7)
        have hxL := ((hx04.trans hx5).trans hx6).trans hx7
        by_cases h5 : 5 ≤ k
        · rw [allV, if_pos ⟨by omega, by omega⟩, Int.toNat_natCast] at hr7
          obtain ⟨x7, rfl, hq7⟩ := hr7
          have hrec := allL_rec k (by omega) h5
          have hqa := hq6.ext hx7
          have hql := (hq5.ext hx6).ext hx7
          have h60 := allL_some (k - 1) (by omega) (by omega)
          have h61 := allL_some (k - 2) (by omega) (by omega)
          have hrecI : ((allL k).length : Int) = (allL (k - 1)).length + (allL (k - 2)).length + 1 := by omega
          simp only [↓vsd, vsn, gW, qd, qv, ev, pick, argE, zipE, ne_eq, eq_self, forall_const, implies_true, if_true, if_false, reduceIte, reduceCtorEq, Nat.reduceEqDiff, Nat.reduceAdd, Nat.reduceLT, ↓us_lFnAllChanges, r_lFnAllChanges, hqa.facts, hq7.facts, hql.facts, hrecI]
          refine ⟨inR_i64 (by omega), inR_i64 (by omega), ?_⟩
          refine m_call (sDrawBetweenRows_ok u more hlen.2 _ (h'.ext hxL)) ?_
          rintro _ wa hxa ⟨a, b, rfl, ha10, hb10⟩
          obtain ⟨o, ho⟩ := leads_some a b
          simp only [↓vsd, vsn, gW, qd, qv, ev, pick, argE, zipE, ne_eq, eq_self, forall_const, implies_true, if_true, if_false, reduceIte, reduceCtorEq, Nat.reduceEqDiff, Nat.reduceAdd, Nat.reduceLT, ↓us_lFnAllChanges, r_lFnAllChanges]
          refine m_call (iBetweenRows_all a b o ho _) ?_
          rintro rb wb hxb rfl
          cases o with
          | some c =>
            have hcl := ho.2.1.len
            have h88 := ho.1.1.1
            have hap := leads_apply ho
            rw [leadsV]
            simp only [↓vsd, vsn, gW, qd, qv, ev, pick, argE, zipE, ne_eq, eq_self, forall_const, implies_true, if_true, if_false, reduceIte, reduceCtorEq, Nat.reduceEqDiff, Nat.reduceAdd, Nat.reduceLT, ↓us_lFnAllChanges, r_lFnAllChanges]
            refine m_call (sBetweenRows_all a b (some c) ho _) ?_
            rintro rc wc hxc rfl
            rw [leadsV]
            simp only [↓vsd, vsn, gW, qd, qv, ev, pick, argE, zipE, ne_eq, eq_self, forall_const, implies_true, if_true, if_false, reduceIte, reduceCtorEq, Nat.reduceEqDiff, Nat.reduceAdd, Nat.reduceLT, ↓us_lFnAllChanges, r_lFnAllChanges]
            refine m_call (iApply_ok a c (by omega) _) ?_
            rintro rd wd hxd hrd
            rw [hap] at hrd
            subst hrd
            simp only [↓vsd, vsn, gW, qd, qv, ev, pick, argE, zipE, ne_eq, eq_self, forall_const, implies_true, if_true, if_false, reduceIte, reduceCtorEq, Nat.reduceEqDiff, Nat.reduceAdd, Nat.reduceLT, ↓us_lFnAllChanges, r_lFnAllChanges]
            refine m_call (iBetweenRows_all b a (some c) (leads_back ho) _) ?_
            rintro re we hxe rfl
            rw [leadsV]
            simp only [↓vsd, vsn, gW, qd, qv, ev, pick, argE, zipE, ne_eq, eq_self, forall_const, implies_true, if_true, if_false, reduceIte, reduceCtorEq, Nat.reduceEqDiff, Nat.reduceAdd, Nat.reduceLT, ↓us_lFnAllChanges, r_lFnAllChanges]
            exact ((((hxL.trans hxa).trans hxb).trans hxc).trans hxd).trans hxe
          | none =>
            rw [leadsV]
            simp only [↓vsd, vsn, gW, qd, qv, ev, pick, argE, zipE, ne_eq, eq_self, forall_const, implies_true, if_true, if_false, reduceIte, reduceCtorEq, Nat.reduceEqDiff, Nat.reduceAdd, Nat.reduceLT, ↓us_lFnAllChanges, r_lFnAllChanges]
            refine m_call (sBetweenRows_all a b none ho _) ?_
            rintro rc wc hxc rfl
            rw [leadsV]
            simp only [↓vsd, vsn, gW, qd, qv, ev, pick, argE, zipE, ne_eq, eq_self, forall_const, implies_true, if_true, if_false, reduceIte, reduceCtorEq, Nat.reduceEqDiff, Nat.reduceAdd, Nat.reduceLT, ↓us_lFnAllChanges, r_lFnAllChanges]
            exact ((hxL.trans hxa).trans hxb).trans hxc
        · rw [allV, if_neg (by omega)] at hr7
          subst hr7
          simp only [↓vsd, vsn, gW, qd, qv, ev, pick, argE, zipE, ne_eq, eq_self, forall_const, implies_true, if_true, if_false, reduceIte, reduceCtorEq, Nat.reduceEqDiff, Nat.reduceAdd, Nat.reduceLT, ↓us_lFnAllChanges, r_lFnAllChanges]
          refine m_call (sDrawBetweenRows_ok u more hlen.2 _ (h'.ext hxL)) ?_
          rintro _ wa hxa ⟨a, b, rfl, ha10, hb10⟩
          obtain ⟨o, ho⟩ := leads_some a b
          simp only [↓vsd, vsn, gW, qd, qv, ev, pick, argE, zipE, ne_eq, eq_self, forall_const, implies_true, if_true, if_false, reduceIte, reduceCtorEq, Nat.reduceEqDiff, Nat.reduceAdd, Nat.reduceLT, ↓us_lFnAllChanges, r_lFnAllChanges]
          refine m_call (iBetweenRows_all a b o ho _) ?_
          rintro rb wb hxb rfl
          cases o with
          | some c =>
            have hcl := ho.2.1.len
            have h88 := ho.1.1.1
            have hap := leads_apply ho
            rw [leadsV]
            simp only [↓vsd, vsn, gW, qd, qv, ev, pick, argE, zipE, ne_eq, eq_self, forall_const, implies_true, if_true, if_false, reduceIte, reduceCtorEq, Nat.reduceEqDiff, Nat.reduceAdd, Nat.reduceLT, ↓us_lFnAllChanges, r_lFnAllChanges]
            refine m_call (sBetweenRows_all a b (some c) ho _) ?_
            rintro rc wc hxc rfl
            rw [leadsV]
            simp only [↓vsd, vsn, gW, qd, qv, ev, pick, argE, zipE, ne_eq, eq_self, forall_const, implies_true, if_true, if_false, reduceIte, reduceCtorEq, Nat.reduceEqDiff, Nat.reduceAdd, Nat.reduceLT, ↓us_lFnAllChanges, r_lFnAllChanges]
            refine m_call (iApply_ok a c (by omega) _) ?_
            rintro rd wd hxd hrd
            rw [hap] at hrd
            subst hrd
            simp only [↓vsd, vsn, gW, qd, qv, ev, pick, argE, zipE, ne_eq, eq_self, forall_const, implies_true, if_true, if_false, reduceIte, reduceCtorEq, Nat.reduceEqDiff, Nat.reduceAdd, Nat.reduceLT, ↓us_lFnAllChanges, r_lFnAllChanges]
            refine m_call (iBetweenRows_all b a (some c) (leads_back ho) _) ?_
            rintro re we hxe rfl
            rw [leadsV]
            simp only [↓vsd, vsn, gW, qd, qv, ev, pick, argE, zipE, ne_eq, eq_self, forall_const, implies_true, if_true, if_false, reduceIte, reduceCtorEq, Nat.reduceEqDiff, Nat.reduceAdd, Nat.reduceLT, ↓us_lFnAllChanges, r_lFnAllChanges]
            exact ((((hxL.trans hxa).trans hxb).trans hxc).trans hxd).trans hxe
          | none =>
            rw [leadsV]
            simp only [↓vsd, vsn, gW, qd, qv, ev, pick, argE, zipE, ne_eq, eq_self, forall_const, implies_true, if_true, if_false, reduceIte, reduceCtorEq, Nat.reduceEqDiff, Nat.reduceAdd, Nat.reduceLT, ↓us_lFnAllChanges, r_lFnAllChanges]
            refine m_call (sBetweenRows_all a b none ho _) ?_
            rintro rc wc hxc rfl
            rw [leadsV]
            simp only [↓vsd, vsn, gW, qd, qv, ev, pick, argE, zipE, ne_eq, eq_self, forall_const, implies_true, if_true, if_false, reduceIte, reduceCtorEq, Nat.reduceEqDiff, Nat.reduceAdd, Nat.reduceLT, ↓us_lFnAllChanges, r_lFnAllChanges]
            exact ((hxL.trans hxa).trans hxb).trans hxc
      · rw [allV, if_neg (by omega)] at hr6
        subst hr6
        simp only [↓vsd, vsn, gW, qd, qv, ev, pick, argE, zipE, ne_eq, eq_self, forall_const, implies_true, if_true, if_false, reduceIte, reduceCtorEq, Nat.reduceEqDiff, Nat.reduceAdd, Nat.reduceLT, ↓us_lFnAllChanges, r_lFnAllChanges, e2]
        refine ⟨inR_i64 (by omega), m_call (iAllChanges_ok ((k - 2 : Nat) : Int) _) ?_⟩
        rintro r7 w7 hx7 hr7
        have hx7 : Ext w6 w7 := by first | exact hx7 | exact ud hx7 | exact ud (ud hx7)
        have hxL := ((hx04.trans hx5).trans hx6).trans hx7
        rw [allV, if_neg (by omega)] at hr7
        subst hr7
        simp only [↓vsd, vsn, gW, qd, qv, ev, pick, argE, zipE, ne_eq, eq_self, forall_const, implies_true, if_true, if_false, reduceIte, reduceCtorEq, Nat.reduceEqDiff, Nat.reduceAdd, Nat.reduceLT, ↓us_lFnAllChanges, r_lFnAllChanges]
        refine m_call (sDrawBetweenRows_ok u more hlen.2 _ (h'.ext hxL)) ?_
        rintro _ wa hxa ⟨a, b, rfl, ha10, hb10⟩
        obtain ⟨o, ho⟩ := leads_some a b
        simp only [↓vsd, vsn, gW, qd, qv, ev, pick, argE, zipE, ne_eq, eq_self, forall_const, implies_true, if_true, if_false, reduceIte, reduceCtorEq, Nat.reduceEqDiff, Nat.reduceAdd, Nat.reduceLT, ↓us_lFnAllChanges, r_lFnAllChanges]
        refine m_call (iBetweenRows_all a b o ho _) ?_
        rintro rb wb hxb rfl
        cases o with
        | some c =>
          have hcl := ho.2.1.len
          have h88 := ho.1.1.1
          have hap := leads_apply ho
          rw [leadsV]
          simp only [↓vsd, vsn, gW, qd, qv, ev, pick, argE, zipE, ne_eq, eq_self, forall_const, implies_true, if_true, if_false, reduceIte, reduceCtorEq, Nat.reduceEqDiff, Nat.reduceAdd, Nat.reduceLT, ↓us_lFnAllChanges, r_lFnAllChanges]
          refine m_call (sBetweenRows_all a b (some c) ho _) ?_
          rintro rc wc hxc rfl
          rw [leadsV]
          simp only [↓vsd, vsn, gW, qd, qv, ev, pick, argE, zipE, ne_eq, eq_self, forall_const, implies_true, if_true, if_false, reduceIte, reduceCtorEq, Nat.reduceEqDiff, Nat.reduceAdd, Nat.reduceLT, ↓us_lFnAllChanges, r_lFnAllChanges]
          refine m_call (iApply_ok a c (by omega) _) ?_
          rintro rd wd hxd hrd
          rw [hap] at hrd
          subst hrd
          simp only [↓vsd, vsn, gW, qd, qv, ev, pick, argE, zipE, ne_eq, eq_self, forall_const, implies_true, if_true, if_false, reduceIte, reduceCtorEq, Nat.reduceEqDiff, Nat.reduceAdd, Nat.reduceLT, ↓us_lFnAllChanges, r_lFnAllChanges]
          refine m_call (iBetweenRows_all b a (some c) (leads_back ho) _) ?_
          rintro re we hxe rfl
          rw [leadsV]
          simp only [↓vsd, vsn, gW, qd, qv, ev, pick, argE, zipE, ne_eq, eq_self, forall_const, implies_true, if_true, if_false, reduceIte, reduceCtorEq, Nat.reduceEqDiff, Nat.reduceAdd, Nat.reduceLT, ↓us_lFnAllChanges, r_lFnAllChanges]
          exact ((((hxL.trans hxa).trans hxb).trans hxc).trans hxd).trans hxe
        | none =>
          rw [leadsV]
          simp only [↓vsd, vsn, gW, qd, qv, ev, pick, argE, zipE, ne_eq, eq_self, forall_const, implies_true, if_true, if_false, reduceIte, reduceCtorEq, Nat.reduceEqDiff, Nat.reduceAdd, Nat.reduceLT, ↓us_lFnAllChanges, r_lFnAllChanges]
          refine m_call (sBetweenRows_all a b none ho _) ?_
          rintro rc wc hxc rfl
          rw [leadsV]
          simp only [↓vsd, vsn, gW, qd, qv, ev, pick, argE, zipE, ne_eq, eq_self, forall_const, implies_true, if_true, if_false, reduceIte, reduceCtorEq, Nat.reduceEqDiff, Nat.reduceAdd, Nat.reduceLT, ↓us_lFnAllChanges, r_lFnAllChanges]
          exact ((hxL.trans hxa).trans hxb).trans hxc
  · rw [allV, if_neg hn] at hr2
    subst hr2
    simp only [↓vsd, vsn, gW, qd, qv, ev, pick, argE, zipE, ne_eq, eq_self, forall_const, implies_true, if_true, if_false, reduceIte, reduceCtorEq, Nat.reduceEqDiff, Nat.reduceAdd, Nat.reduceLT, ↓us_lFnAllChanges, r_lFnAllChanges]
    refine m_call (sAllChanges_ok n _) ?_
    rintro r3 w3 hx3 hr3
    rw [allV, if_neg hn] at hr3
    subst hr3
    simp only [↓vsd, vsn, gW, qd, qv, ev, pick, argE, zipE, ne_eq, eq_self, forall_const, implies_true, if_true, if_false, reduceIte, reduceCtorEq, Nat.reduceEqDiff, Nat.reduceAdd, Nat.reduceLT, ↓us_lFnAllChanges, r_lFnAllChanges]
    refine m_call (lsameTexts_ok _ _ [] [] _ (Sq.nil fS_len) (Sq.nil fS_len) (by simp)) ?_
    rintro _ w4 hx4 rfl
    simp only [↓vsd, vsn, gW, qd, qv, ev, pick, argE, zipE, ne_eq, eq_self, forall_const, implies_true, if_true, if_false, reduceIte, reduceCtorEq, Nat.reduceEqDiff, Nat.reduceAdd, Nat.reduceLT, ↓us_lFnAllChanges, r_lFnAllChanges]
    have hxL := (((hx0.trans hx1).trans hx2).trans hx3).trans hx4
    refine m_call (sDrawBetweenRows_ok u more hlen.2 _ (h'.ext hxL)) ?_
    rintro _ wa hxa ⟨a, b, rfl, ha10, hb10⟩
    obtain ⟨o, ho⟩ := leads_some a b
    simp only [↓vsd, vsn, gW, qd, qv, ev, pick, argE, zipE, ne_eq, eq_self, forall_const, implies_true, if_true, if_false, reduceIte, reduceCtorEq, Nat.reduceEqDiff, Nat.reduceAdd, Nat.reduceLT, ↓us_lFnAllChanges, r_lFnAllChanges]
    refine m_call (iBetweenRows_all a b o ho _) ?_
    rintro rb wb hxb rfl
    cases o with
    | some c =>
      have hcl := ho.2.1.len
      have h88 := ho.1.1.1
      have hap := leads_apply ho
      rw [leadsV]
      simp only [↓vsd, vsn, gW, qd, qv, ev, pick, argE, zipE, ne_eq, eq_self, forall_const, implies_true, if_true, if_false, reduceIte, reduceCtorEq, Nat.reduceEqDiff, Nat.reduceAdd, Nat.reduceLT, ↓us_lFnAllChanges, r_lFnAllChanges]
      refine m_call (sBetweenRows_all a b (some c) ho _) ?_
      rintro rc wc hxc rfl
      rw [leadsV]
      simp only [↓vsd, vsn, gW, qd, qv, ev, pick, argE, zipE, ne_eq, eq_self, forall_const, implies_true, if_true, if_false, reduceIte, reduceCtorEq, Nat.reduceEqDiff, Nat.reduceAdd, Nat.reduceLT, ↓us_lFnAllChanges, r_lFnAllChanges]
      refine m_call (iApply_ok a c (by omega) _) ?_
      rintro rd wd hxd hrd
      rw [hap] at hrd
      subst hrd
      simp only [↓vsd, vsn, gW, qd, qv, ev, pick, argE, zipE, ne_eq, eq_self, forall_const, implies_true, if_true, if_false, reduceIte, reduceCtorEq, Nat.reduceEqDiff, Nat.reduceAdd, Nat.reduceLT, ↓us_lFnAllChanges, r_lFnAllChanges]
      refine m_call (iBetweenRows_all b a (some c) (leads_back ho) _) ?_
      rintro re we hxe rfl
      rw [leadsV]
      simp only [↓vsd, vsn, gW, qd, qv, ev, pick, argE, zipE, ne_eq, eq_self, forall_const, implies_true, if_true, if_false, reduceIte, reduceCtorEq, Nat.reduceEqDiff, Nat.reduceAdd, Nat.reduceLT, ↓us_lFnAllChanges, r_lFnAllChanges]
      exact ((((hxL.trans hxa).trans hxb).trans hxc).trans hxd).trans hxe
    | none =>
      rw [leadsV]
      simp only [↓vsd, vsn, gW, qd, qv, ev, pick, argE, zipE, ne_eq, eq_self, forall_const, implies_true, if_true, if_false, reduceIte, reduceCtorEq, Nat.reduceEqDiff, Nat.reduceAdd, Nat.reduceLT, ↓us_lFnAllChanges, r_lFnAllChanges]
      refine m_call (sBetweenRows_all a b none ho _) ?_
      rintro rc wc hxc rfl
      rw [leadsV]
      simp only [↓vsd, vsn, gW, qd, qv, ev, pick, argE, zipE, ne_eq, eq_self, forall_const, implies_true, if_true, if_false, reduceIte, reduceCtorEq, Nat.reduceEqDiff, Nat.reduceAdd, Nat.reduceLT, ↓us_lFnAllChanges, r_lFnAllChanges]
      exact ((hxL.trans hxa).trans hxb).trans hxc
end Go.Proofs.Ytnincmnkdjlndaa
