/-
  The call of the law FnPartSets.
  Conditions: none.
-/
import Derived.Test.YtnincmnkdjlndaaA79
import Derived.Test.YtnincmnkdjlndaaA80
import Derived.Test.YtnincmnkdjlndaaD22
import Derived.Test.YtnincmnkdjlndaaA36
set_option linter.unusedSimpArgs false
set_option linter.unusedVariables false
set_option linter.defProp false
namespace Go.Proofs.Ytnincmnkdjlndaa
open Go Go.RowKit
section
variable (P : Program) (k : KT) (e : Env) (w : World)
abbrev b90_1 : X := (.seq (.reg [2, 3] (.c (.q 4 [] (.mv (.t 0))) (.c (.e (some 5) [] (.call false 211 [(.t 4)])) (.c (.q 6 [] (.ext 0 (.t 5))) (.c (.q 7 [] (.ext 1 (.t 5))) (.c (.q 2 [] (.mv (.t 6))) (.c (.q 3 [] (.mv (.t 7))) .nil))))))) .ret)
def t90_1 := b90_1
theorem u90_1 : vcK P t90_1 k e w = vcK P b90_1 k e w := rfl
abbrev b90_0 : X := (.seq (.reg [0] (.c (.q 2 [] (.mv (.s []))) (.c (.q 3 [] (.mv (.s []))) .nil))) t90_1)
def x_sDrawPartSet := b90_0
theorem u90_0 : vcK P x_sDrawPartSet k e w = vcK P b90_0 k e w := rfl
def r_sDrawPartSet : List XO := [(.mv (.t 2)), (.mv (.t 3))]
theorem c_sDrawPartSet : convF Try.prog [147, 148, 152, 160, 162, 163, 170, 178, 206, 208, 210, 224, 233, 235, 236, 251, 264, 265, 268, 270, 287, 322] Try.f90 [([0], []), ([2, 3], [])] = some (x_sDrawPartSet, r_sDrawPartSet) := by kernel_rfl
def us_sDrawPartSet :=  (aI @u90_0 @u90_1)
abbrev b217_1 : X := (.seq (.reg [2] (.c (.q 7 [] (.mv (.t 3))) (.c (.e (some 8) [] (.call true 287 [(.t 7)])) (.c (.q 2 [] (.mv (.t 8))) .nil)))) .ret)
def t217_1 := b217_1
theorem u217_1 : vcK P t217_1 k e w = vcK P b217_1 k e w := rfl
abbrev b217_2 : X := (.seq (.reg [3] (.c (.q 4 [] (.mv (.t 0))) (.c (.q 5 [] (.bld [(.slice none 0 0), (.int .i64 0), (.int .u64 0)] [(0, 0, (.t 4))])) (.c (.e (some 6) [] (.box 121 (.t 5))) (.c (.q 3 [] (.mv (.t 6))) .nil))))) t217_1)
def t217_2 := b217_2
theorem u217_2 : vcK P t217_2 k e w = vcK P b217_2 k e w := rfl
abbrev b217_0 : X := (.seq (.reg [0] (.c (.q 2 [] (.mv (.s []))) .nil)) t217_2)
def x_sDrawGoodTouch := b217_0
theorem u217_0 : vcK P x_sDrawGoodTouch k e w = vcK P b217_0 k e w := rfl
def r_sDrawGoodTouch : List XO := [(.mv (.t 2))]
theorem c_sDrawGoodTouch : convF Try.prog [147, 148, 152, 160, 162, 163, 170, 178, 206, 208, 210, 224, 233, 235, 236, 251, 264, 265, 268, 270, 287, 322] Try.f217 [([0], []), ([3], []), ([2], [])] = some (x_sDrawGoodTouch, r_sDrawGoodTouch) := by kernel_rfl
def us_sDrawGoodTouch :=  (aI @u217_0 (aI @u217_1 @u217_2))
abbrev b95_1 : X := (.seq (.reg [2] (.c (.q 3 [] (.mv (.t 0))) (.c (.e (some 4) [] (.call false 217 [(.t 3)])) (.c (.q 2 [] (.mv (.t 4))) .nil)))) .ret)
def t95_1 := b95_1
theorem u95_1 : vcK P t95_1 k e w = vcK P b95_1 k e w := rfl
abbrev b95_0 : X := (.seq (.reg [0] (.c (.q 2 [] (.mv (.s []))) .nil)) t95_1)
def x_sDrawSplitParts := b95_0
theorem u95_0 : vcK P x_sDrawSplitParts k e w = vcK P b95_0 k e w := rfl
def r_sDrawSplitParts : List XO := [(.mv (.t 2))]
theorem c_sDrawSplitParts : convF Try.prog [147, 148, 152, 160, 162, 163, 170, 178, 206, 208, 210, 224, 233, 235, 236, 251, 264, 265, 268, 270, 287, 322] Try.f95 [([0], []), ([2], [])] = some (x_sDrawSplitParts, r_sDrawSplitParts) := by kernel_rfl
def us_sDrawSplitParts :=  (aI @u95_0 @u95_1)
abbrev b9_1 : X := (.cond (.t 38) (.seq (.reg [4] (.c (.q 4 [] (.mv (.c (.bool true)))) .nil)) .ret) .skip)
def t9_1 := b9_1
theorem u9_1 : vcK P t9_1 k e w = vcK P b9_1 k e w := rfl
abbrev b9_2 : X := (.cond (.t 115) (.seq (.reg [4] (.c (.q 4 [] (.mv (.c (.bool false)))) .nil)) .ret) .skip)
def t9_2 := b9_2
theorem u9_2 : vcK P t9_2 k e w = vcK P b9_2 k e w := rfl
abbrev b9_3 : X := (.cond (.t 119) .skip (.exit 0))
def t9_3 := b9_3
theorem u9_3 : vcK P t9_3 k e w = vcK P b9_3 k e w := rfl
abbrev b9_4 : X := (.reg [5, 6, 7, 8, 11, 15, 16, 17, 22, 23] (.c (.q 120 [] (.mv (.t 23))) (.c (.q 121 [] (.bin .add (.t 120) (.c (.int .i64 1)))) (.c (.q 23 [] (.mv (.t 121))) .nil))))
def t9_4 := b9_4
theorem u9_4 : vcK P t9_4 k e w = vcK P b9_4 k e w := rfl
abbrev b9_5 : X := (.seq (.blk 1 (.reg [5, 6, 7, 8, 11, 15, 16, 17, 22, 23] (.c (.q 122 [] (.mv (.t 22))) (.c (.q 123 [] (.mv (.t 16))) (.c (.q 124 [] (.bin .add (.t 122) (.t 123))) (.c (.q 22 [] (.mv (.t 124))) .nil)))))) t9_4)
def t9_5 := b9_5
theorem u9_5 : vcK P t9_5 k e w = vcK P b9_5 k e w := rfl
abbrev b9_6 : X := (.seq (.seq (.reg [5, 6, 7, 8, 11, 15, 16, 17, 22, 23, 119] (.c (.q 117 [] (.mv (.t 23))) (.c (.q 118 [] (.mv (.t 17))) (.c (.q 119 [] (.bin .lss (.t 117) (.t 118))) .nil)))) t9_3) t9_5)
def t9_6 := b9_6
theorem u9_6 : vcK P t9_6 k e w = vcK P b9_6 k e w := rfl
abbrev b9_7 : X := (.blk 0 (.loop [22, 23] [5, 6, 7, 8, 11, 15, 16, 17] t9_6))
def t9_7 := b9_7
theorem u9_7 : vcK P t9_7 k e w = vcK P b9_7 k e w := rfl
abbrev b9_8 : X := (.cond (.t 141) (.seq (.reg [4] (.c (.q 4 [] (.mv (.c (.bool false)))) .nil)) .ret) .skip)
def t9_8 := b9_8
theorem u9_8 : vcK P t9_8 k e w = vcK P b9_8 k e w := rfl
abbrev b9_9 : X := (.seq (.reg [5, 6, 7, 8, 11, 141] (.c (.q 131 [] (.mv (.t 22))) (.c (.q 132 [] (.mv (.t 15))) (.c (.q 133 [] (.bin .neq (.t 131) (.t 132))) (.c (.q 134 [] (.mv (.t 133))) (.c (.q 135 [(134, false)] (.mv (.t 26))) (.c (.q 136 [(134, false)] (.not (.t 135))) (.c (.q 137 [] (.pick (.t 134) (.c (.bool true)) (.t 136))) (.c (.q 138 [] (.mv (.t 137))) (.c (.q 139 [(138, false)] (.mv (.t 25))) (.c (.q 140 [(138, false)] (.bin .neq (.t 139) (.c (.int .i64 1)))) (.c (.q 141 [] (.pick (.t 138) (.c (.bool true)) (.t 140))) .nil)))))))))))) t9_8)
def t9_9 := b9_9
theorem u9_9 : vcK P t9_9 k e w = vcK P b9_9 k e w := rfl
abbrev b9_10 : X := (.seq (.reg [5, 6, 7, 8, 11, 15, 22, 25, 26] (.c (.q 126 [] (.mv (.t 16))) (.c (.e (some 127) [] (.call false 96 [(.t 126)])) (.c (.q 125 [] (.mv (.t 127))) (.c (.q 128 [] (.ext 0 (.t 125))) (.c (.q 129 [] (.ext 1 (.t 125))) (.c (.q 130 [] (.ext 2 (.t 125))) (.c (.q 24 [] (.mv (.t 128))) (.c (.q 25 [] (.mv (.t 129))) (.c (.q 26 [] (.mv (.t 130))) .nil)))))))))) t9_9)
def t9_10 := b9_10
theorem u9_10 : vcK P t9_10 k e w = vcK P b9_10 k e w := rfl
abbrev b9_11 : X := (.seq (.seq (.reg [5, 6, 7, 8, 11, 15, 16, 17, 22, 23] (.c (.q 23 [] (.mv (.c (.int .i64 0)))) .nil)) t9_7) t9_10)
def t9_11 := b9_11
theorem u9_11 : vcK P t9_11 k e w = vcK P b9_11 k e w := rfl
abbrev b9_12 : X := (.cond (.t 116) (.seq (.reg [5, 6, 7, 8, 11, 15, 16, 17, 22] (.c (.q 22 [] (.mv (.s []))) .nil)) t9_11) .skip)
def t9_12 := b9_12
theorem u9_12 : vcK P t9_12 k e w = vcK P b9_12 k e w := rfl
abbrev b9_13 : X := (.cond (.t 143) (.seq (.reg [4] (.c (.q 4 [] (.mv (.c (.bool true)))) .nil)) .ret) .skip)
def t9_13 := b9_13
theorem u9_13 : vcK P t9_13 k e w = vcK P b9_13 k e w := rfl
abbrev b9_14 : X := (.seq (.reg [4] (.c (.q 161 [] (.mv (.t 28))) (.c (.q 162 [] (.mv (.t 161))) (.c (.q 163 [(162, true)] (.mv (.t 30))) (.c (.q 164 [] (.pick (.t 162) (.t 163) (.c (.bool false)))) (.c (.q 165 [] (.mv (.t 164))) (.c (.q 166 [(165, true)] (.mv (.t 32))) (.c (.q 167 [] (.pick (.t 165) (.t 166) (.c (.bool false)))) (.c (.q 168 [] (.mv (.t 167))) (.c (.q 169 [(168, true)] (.mv (.t 7))) (.c (.q 170 [(168, true)] (.lens (.t 169))) (.c (.q 171 [(168, true)] (.mv (.t 31))) (.c (.q 172 [(168, true)] (.bin .eql (.t 170) (.t 171))) (.c (.q 173 [] (.pick (.t 168) (.t 172) (.c (.bool false)))) (.c (.q 174 [] (.mv (.t 173))) (.c (.q 175 [(174, true)] (.mv (.t 7))) (.c (.q 176 [(174, true)] (.ia 1 (.t 175) (.c (.int .i64 0)))) (.c (.q 177 [(174, true)] (.ld (.t 176))) (.c (.q 178 [(174, true)] (.mv (.t 11))) (.c (.q 179 [(174, true)] (.bin .eql (.t 177) (.t 178))) (.c (.q 180 [] (.pick (.t 174) (.t 179) (.c (.bool false)))) (.c (.q 181 [] (.mv (.t 180))) (.c (.q 182 [(181, true)] (.mv (.t 29))) (.c (.q 183 [(181, true)] (.mv (.t 11))) (.c (.q 184 [(181, true)] (.bin .eql (.t 182) (.t 183))) (.c (.q 185 [] (.pick (.t 181) (.t 184) (.c (.bool false)))) (.c (.q 4 [] (.mv (.t 185))) .nil))))))))))))))))))))))))))) .ret)
def t9_14 := b9_14
theorem u9_14 : vcK P t9_14 k e w = vcK P b9_14 k e w := rfl
abbrev b9_15 : X := (.seq (.reg [7, 11, 28, 29, 30, 31, 32] (.c (.q 157 [] (.mv (.t 5))) (.c (.e (some 158) [] (.call false 100 [(.t 157)])) (.c (.q 156 [] (.mv (.t 158))) (.c (.q 159 [] (.ext 0 (.t 156))) (.c (.q 160 [] (.ext 1 (.t 156))) (.c (.q 31 [] (.mv (.t 159))) (.c (.q 32 [] (.mv (.t 160))) .nil)))))))) t9_14)
def t9_15 := b9_15
theorem u9_15 : vcK P t9_15 k e w = vcK P b9_15 k e w := rfl
abbrev b9_16 : X := (.seq (.reg [5, 7, 11, 28, 29, 30] (.c (.q 151 [] (.mv (.t 5))) (.c (.q 152 [] (.mv (.t 27))) (.c (.e (some 153) [] (.call false 93 [(.t 151), (.t 152)])) (.c (.q 150 [] (.mv (.t 153))) (.c (.q 154 [] (.ext 0 (.t 150))) (.c (.q 155 [] (.ext 1 (.t 150))) (.c (.q 29 [] (.mv (.t 154))) (.c (.q 30 [] (.mv (.t 155))) .nil))))))))) t9_15)
def t9_16 := b9_16
theorem u9_16 : vcK P t9_16 k e w = vcK P b9_16 k e w := rfl
abbrev b9_17 : X := (.seq (.reg [5, 7, 11, 27, 28] (.c (.q 145 [] (.mv (.t 5))) (.c (.q 146 [] (.mv (.t 6))) (.c (.e (some 147) [] (.call false 99 [(.t 145), (.t 146)])) (.c (.q 144 [] (.mv (.t 147))) (.c (.q 148 [] (.ext 0 (.t 144))) (.c (.q 149 [] (.ext 1 (.t 144))) (.c (.q 27 [] (.mv (.t 148))) (.c (.q 28 [] (.mv (.t 149))) .nil))))))))) t9_16)
def t9_17 := b9_17
theorem u9_17 : vcK P t9_17 k e w = vcK P b9_17 k e w := rfl
abbrev b9_18 : X := (.seq (.seq (.reg [5, 6, 7, 11, 143] (.c (.q 142 [] (.mv (.t 8))) (.c (.q 143 [] (.not (.t 142))) .nil))) t9_13) t9_17)
def t9_18 := b9_18
theorem u9_18 : vcK P t9_18 k e w = vcK P b9_18 k e w := rfl
abbrev b9_19 : X := (.seq (.seq (.reg [5, 6, 7, 8, 11, 15, 16, 17, 116] (.c (.q 116 [] (.mv (.t 18))) .nil)) t9_12) t9_18)
def t9_19 := b9_19
theorem u9_19 : vcK P t9_19 k e w = vcK P b9_19 k e w := rfl
abbrev b9_20 : X := (.seq (.seq (.reg [5, 6, 7, 8, 11, 15, 16, 17, 18, 115] (.c (.q 82 [] (.mv (.t 8))) (.c (.q 83 [] (.mv (.t 10))) (.c (.q 84 [] (.beq true (.t 82) (.t 83))) (.c (.q 85 [] (.mv (.t 84))) (.c (.q 86 [(85, false)] (.mv (.t 7))) (.c (.q 87 [(85, false)] (.mv (.t 9))) (.c (.e (some 88) [(85, false)] (.call false 98 [(.t 86), (.t 87)])) (.c (.q 89 [(85, false)] (.not (.t 88))) (.c (.q 90 [] (.pick (.t 85) (.c (.bool true)) (.t 89))) (.c (.q 91 [] (.mv (.t 90))) (.c (.q 92 [(91, false)] (.mv (.t 12))) (.c (.q 93 [(91, false)] (.mv (.t 14))) (.c (.q 94 [(91, false)] (.beq true (.t 92) (.t 93))) (.c (.q 95 [] (.pick (.t 91) (.c (.bool true)) (.t 94))) (.c (.q 96 [] (.mv (.t 95))) (.c (.q 97 [(96, false)] (.mv (.t 11))) (.c (.q 98 [(96, false)] (.mv (.t 13))) (.c (.q 99 [(96, false)] (.bin .neq (.t 97) (.t 98))) (.c (.q 100 [] (.pick (.t 96) (.c (.bool true)) (.t 99))) (.c (.q 101 [] (.mv (.t 100))) (.c (.q 102 [(101, false)] (.mv (.t 18))) (.c (.q 103 [(101, false)] (.mv (.t 21))) (.c (.q 104 [(101, false)] (.beq true (.t 102) (.t 103))) (.c (.q 105 [] (.pick (.t 101) (.c (.bool true)) (.t 104))) (.c (.q 106 [] (.mv (.t 105))) (.c (.q 107 [(106, false)] (.mv (.t 16))) (.c (.q 108 [(106, false)] (.mv (.t 19))) (.c (.q 109 [(106, false)] (.bin .neq (.t 107) (.t 108))) (.c (.q 110 [] (.pick (.t 106) (.c (.bool true)) (.t 109))) (.c (.q 111 [] (.mv (.t 110))) (.c (.q 112 [(111, false)] (.mv (.t 17))) (.c (.q 113 [(111, false)] (.mv (.t 20))) (.c (.q 114 [(111, false)] (.bin .neq (.t 112) (.t 113))) (.c (.q 115 [] (.pick (.t 111) (.c (.bool true)) (.t 114))) .nil))))))))))))))))))))))))))))))))))) t9_2) t9_19)
def t9_20 := b9_20
theorem u9_20 : vcK P t9_20 k e w = vcK P b9_20 k e w := rfl
abbrev b9_21 : X := (.seq (.reg [5, 6, 7, 8, 9, 10, 11, 12, 13, 14, 15, 16, 17, 18, 19, 20, 21] (.c (.q 77 [] (.mv (.t 15))) (.c (.e (some 78) [] (.call false 97 [(.t 77)])) (.c (.q 76 [] (.mv (.t 78))) (.c (.q 79 [] (.ext 0 (.t 76))) (.c (.q 80 [] (.ext 1 (.t 76))) (.c (.q 81 [] (.ext 2 (.t 76))) (.c (.q 19 [] (.mv (.t 79))) (.c (.q 20 [] (.mv (.t 80))) (.c (.q 21 [] (.mv (.t 81))) .nil)))))))))) t9_20)
def t9_21 := b9_21
theorem u9_21 : vcK P t9_21 k e w = vcK P b9_21 k e w := rfl
abbrev b9_22 : X := (.seq (.reg [5, 6, 7, 8, 9, 10, 11, 12, 13, 14, 15, 16, 17, 18] (.c (.q 71 [] (.mv (.t 15))) (.c (.e (some 72) [] (.call false 96 [(.t 71)])) (.c (.q 70 [] (.mv (.t 72))) (.c (.q 73 [] (.ext 0 (.t 70))) (.c (.q 74 [] (.ext 1 (.t 70))) (.c (.q 75 [] (.ext 2 (.t 70))) (.c (.q 16 [] (.mv (.t 73))) (.c (.q 17 [] (.mv (.t 74))) (.c (.q 18 [] (.mv (.t 75))) .nil)))))))))) t9_21)
def t9_22 := b9_22
theorem u9_22 : vcK P t9_22 k e w = vcK P b9_22 k e w := rfl
abbrev b9_23 : X := (.seq (.reg [5, 6, 7, 8, 9, 10, 11, 12, 13, 14, 15] (.c (.q 68 [] (.mv (.t 1))) (.c (.e (some 69) [] (.call false 95 [(.t 68)])) (.c (.q 15 [] (.mv (.t 69))) .nil)))) t9_22)
def t9_23 := b9_23
theorem u9_23 : vcK P t9_23 k e w = vcK P b9_23 k e w := rfl
abbrev b9_24 : X := (.seq (.reg [1, 5, 6, 7, 8, 9, 10, 11, 12, 13, 14] (.c (.q 63 [] (.mv (.t 5))) (.c (.q 64 [] (.mv (.t 6))) (.c (.e (some 65) [] (.call false 94 [(.t 63), (.t 64)])) (.c (.q 62 [] (.mv (.t 65))) (.c (.q 66 [] (.ext 0 (.t 62))) (.c (.q 67 [] (.ext 1 (.t 62))) (.c (.q 13 [] (.mv (.t 66))) (.c (.q 14 [] (.mv (.t 67))) .nil))))))))) t9_23)
def t9_24 := b9_24
theorem u9_24 : vcK P t9_24 k e w = vcK P b9_24 k e w := rfl
abbrev b9_25 : X := (.seq (.reg [1, 5, 6, 7, 8, 9, 10, 11, 12] (.c (.q 57 [] (.mv (.t 5))) (.c (.q 58 [] (.mv (.t 6))) (.c (.e (some 59) [] (.call false 93 [(.t 57), (.t 58)])) (.c (.q 56 [] (.mv (.t 59))) (.c (.q 60 [] (.ext 0 (.t 56))) (.c (.q 61 [] (.ext 1 (.t 56))) (.c (.q 11 [] (.mv (.t 60))) (.c (.q 12 [] (.mv (.t 61))) .nil))))))))) t9_24)
def t9_25 := b9_25
theorem u9_25 : vcK P t9_25 k e w = vcK P b9_25 k e w := rfl
abbrev b9_26 : X := (.seq (.reg [1, 5, 6, 7, 8, 9, 10] (.c (.q 51 [] (.mv (.t 5))) (.c (.q 52 [] (.mv (.t 6))) (.c (.e (some 53) [] (.call false 92 [(.t 51), (.t 52)])) (.c (.q 50 [] (.mv (.t 53))) (.c (.q 54 [] (.ext 0 (.t 50))) (.c (.q 55 [] (.ext 1 (.t 50))) (.c (.q 9 [] (.mv (.t 54))) (.c (.q 10 [] (.mv (.t 55))) .nil))))))))) t9_25)
def t9_26 := b9_26
theorem u9_26 : vcK P t9_26 k e w = vcK P b9_26 k e w := rfl
abbrev b9_27 : X := (.seq (.reg [1, 5, 6, 7, 8] (.c (.q 45 [] (.mv (.t 5))) (.c (.q 46 [] (.mv (.t 6))) (.c (.e (some 47) [] (.call false 91 [(.t 45), (.t 46)])) (.c (.q 44 [] (.mv (.t 47))) (.c (.q 48 [] (.ext 0 (.t 44))) (.c (.q 49 [] (.ext 1 (.t 44))) (.c (.q 7 [] (.mv (.t 48))) (.c (.q 8 [] (.mv (.t 49))) .nil))))))))) t9_26)
def t9_27 := b9_27
theorem u9_27 : vcK P t9_27 k e w = vcK P b9_27 k e w := rfl
abbrev b9_28 : X := (.seq (.reg [1, 5, 6] (.c (.q 40 [] (.mv (.t 0))) (.c (.e (some 41) [] (.call false 90 [(.t 40)])) (.c (.q 39 [] (.mv (.t 41))) (.c (.q 42 [] (.ext 0 (.t 39))) (.c (.q 43 [] (.ext 1 (.t 39))) (.c (.q 5 [] (.mv (.t 42))) (.c (.q 6 [] (.mv (.t 43))) .nil)))))))) t9_27)
def t9_28 := b9_28
theorem u9_28 : vcK P t9_28 k e w = vcK P b9_28 k e w := rfl
abbrev b9_29 : X := (.seq (.seq (.reg [0, 1, 38] (.c (.q 33 [] (.mv (.t 0))) (.c (.q 34 [] (.lens (.t 33))) (.c (.q 35 [] (.mv (.t 1))) (.c (.q 36 [] (.lens (.t 35))) (.c (.q 37 [] (.bin .add (.t 34) (.t 36))) (.c (.q 38 [] (.bin .gtr (.t 37) (.c (.int .i64 1048576)))) .nil))))))) t9_1) t9_28)
def t9_29 := b9_29
theorem u9_29 : vcK P t9_29 k e w = vcK P b9_29 k e w := rfl
abbrev b9_0 : X := (.seq (.reg [0, 1] (.c (.q 4 [] (.mv (.c (.bool false)))) .nil)) t9_29)
def x_lFnPartSets := b9_0
theorem u9_0 : vcK P x_lFnPartSets k e w = vcK P b9_0 k e w := rfl
def r_lFnPartSets : List XO := [(.mv (.t 4))]
theorem c_lFnPartSets : convF Try.prog [147, 148, 152, 160, 162, 163, 170, 178, 206, 208, 210, 224, 233, 235, 236, 251, 264, 265, 268, 270, 287, 322] Try.f9 [([0, 1], []), ([0, 1, 38], []), ([4], []), ([1, 5, 6], []), ([1, 5, 6, 7, 8], []), ([1, 5, 6, 7, 8, 9, 10], []), ([1, 5, 6, 7, 8, 9, 10, 11, 12], []), ([1, 5, 6, 7, 8, 9, 10, 11, 12, 13, 14], []), ([5, 6, 7, 8, 9, 10, 11, 12, 13, 14, 15], []), ([5, 6, 7, 8, 9, 10, 11, 12, 13, 14, 15, 16, 17, 18], []), ([5, 6, 7, 8, 9, 10, 11, 12, 13, 14, 15, 16, 17, 18, 19, 20, 21], []), ([5, 6, 7, 8, 11, 15, 16, 17, 18, 115], []), ([4], []), ([5, 6, 7, 8, 11, 15, 16, 17, 116], []), ([5, 6, 7, 8, 11, 15, 16, 17, 22], []), ([5, 6, 7, 8, 11, 15, 16, 17, 22, 23], []), ([22, 23], [5, 6, 7, 8, 11, 15, 16, 17]), ([5, 6, 7, 8, 11, 15, 16, 17, 22, 23, 119], []), ([5, 6, 7, 8, 11, 15, 16, 17, 22, 23], []), ([5, 6, 7, 8, 11, 15, 16, 17, 22, 23], []), ([5, 6, 7, 8, 11, 15, 22, 25, 26], []), ([5, 6, 7, 8, 11, 141], []), ([4], []), ([5, 6, 7, 11, 143], []), ([4], []), ([5, 7, 11, 27, 28], []), ([5, 7, 11, 28, 29, 30], []), ([7, 11, 28, 29, 30, 31, 32], []), ([4], [])] = some (x_lFnPartSets, r_lFnPartSets) := by kernel_rfl
def us_lFnPartSets :=  (aI (aI (aI (aI @u9_0 (aI @u9_1 @u9_2)) (aI (aI @u9_3 @u9_4) (aI @u9_5 @u9_6))) (aI (aI (aI @u9_7 @u9_8) (aI @u9_9 @u9_10)) (aI (aI @u9_11 @u9_12) (aI @u9_13 @u9_14)))) (aI (aI (aI @u9_15 (aI @u9_16 @u9_17)) (aI (aI @u9_18 @u9_19) (aI @u9_20 @u9_21))) (aI (aI (aI @u9_22 @u9_23) (aI @u9_24 @u9_25)) (aI (aI @u9_26 @u9_27) (aI @u9_28 @u9_29)))))
end

theorem sDrawPartSet_ok (v : Value) (code : List UInt8) (hl : code.length ≤ 1048576) (w : World) (h : Sq fU 1 w v code) : Fn 90 [v] w (fun r _ => ∃ x y, r = .tuple ⟨[S x, S y]⟩ ∧ x.length ≤ 10 ∧ y.length ≤ 10) := by
  (refine callsV_of mix Try.func90 c_sDrawPartSet ?_; simp only [↓vsd, vsn, gW, qd, qv, ev, pick, argE, zipE, ne_eq, eq_self, forall_const, implies_true, if_true, if_false, reduceIte, reduceCtorEq, Nat.reduceEqDiff, Nat.reduceAdd, Nat.reduceLT, ↓us_sDrawPartSet, r_sDrawPartSet])
  refine m_call (sDrawTimes_ok v code hl _ h) ?_
  rintro _ w1 hx1 ⟨x, y, rfl, h1, h2⟩
  simp only [↓vsd, vsn, gW, qd, qv, ev, pick, argE, zipE, ne_eq, eq_self, forall_const, implies_true, if_true, if_false, reduceIte, reduceCtorEq, Nat.reduceEqDiff, Nat.reduceAdd, Nat.reduceLT, ↓us_sDrawPartSet, r_sDrawPartSet]
  exact ⟨hx1, x, y, rfl, h1, h2⟩
theorem sDrawGoodTouch_okp (v : Value) (code : List UInt8) (hl : code.length ≤ 1048576) (w : World) (h : Sq fU 1 w v code) : Fn 217 [v] w (fun r _ => ∃ x, r = S x ∧ x.length ≤ 61) := by
  (refine callsV_of mix Try.func217 c_sDrawGoodTouch ?_; simp only [↓vsd, vsn, gW, qd, qv, ev, pick, argE, zipE, ne_eq, eq_self, forall_const, implies_true, if_true, if_false, reduceIte, reduceCtorEq, Nat.reduceEqDiff, Nat.reduceAdd, Nat.reduceLT, ↓us_sDrawGoodTouch, r_sDrawGoodTouch])
  simp only [↓vsd, vsn, gW, qd, qv, ev, pick, argE, zipE, ne_eq, eq_self, forall_const, implies_true, if_true, if_false, reduceIte, reduceCtorEq, Nat.reduceEqDiff, Nat.reduceAdd, Nat.reduceLT, ↓us_sDrawGoodTouch, r_sDrawGoodTouch, h.facts]
  refine m_al ?_
  rintro b w1 hb hblk hx1 hs1
  have hc := Cur.new h hl hb hblk hx1
  simp only [↓vsd, vsn, gW, qd, qv, ev, pick, argE, zipE, ne_eq, eq_self, forall_const, implies_true, if_true, if_false, reduceIte, reduceCtorEq, Nat.reduceEqDiff, Nat.reduceAdd, Nat.reduceLT, ↓us_sDrawGoodTouch, r_sDrawGoodTouch]
  refine m_callw (.inl rfl) (sl1Cur_anyTouch_ok w b _ w1 (by omega) hc) ?_
  rintro _ w2 ⟨hc2, hg2, x, rfl, hx⟩
  simp only [↓vsd, vsn, gW, qd, qv, ev, pick, argE, zipE, ne_eq, eq_self, forall_const, implies_true, if_true, if_false, reduceIte, reduceCtorEq, Nat.reduceEqDiff, Nat.reduceAdd, Nat.reduceLT, ↓us_sDrawGoodTouch, r_sDrawGoodTouch]
  exact ⟨hc2.base, x, rfl, hx⟩
theorem sDrawSplitParts_ok (v : Value) (code : List UInt8) (hl : code.length ≤ 1048576) (w : World) (h : Sq fU 1 w v code) : Fn 95 [v] w (fun r _ => ∃ x, r = S x ∧ x.length ≤ 61) := by
  (refine callsV_of mix Try.func95 c_sDrawSplitParts ?_; simp only [↓vsd, vsn, gW, qd, qv, ev, pick, argE, zipE, ne_eq, eq_self, forall_const, implies_true, if_true, if_false, reduceIte, reduceCtorEq, Nat.reduceEqDiff, Nat.reduceAdd, Nat.reduceLT, ↓us_sDrawSplitParts, r_sDrawSplitParts])
  refine m_call (sDrawGoodTouch_okp v code hl _ h) ?_
  rintro _ w1 hx1 ⟨x, rfl, hx⟩
  simp only [↓vsd, vsn, gW, qd, qv, ev, pick, argE, zipE, ne_eq, eq_self, forall_const, implies_true, if_true, if_false, reduceIte, reduceCtorEq, Nat.reduceEqDiff, Nat.reduceAdd, Nat.reduceLT, ↓us_sDrawSplitParts, r_sDrawSplitParts]
  exact ⟨hx1, x, rfl, hx⟩
theorem tch_part {t : List UInt8} {n : Nat} (ht : IsTch t) (h : 0 < n) : IsTch (t.take n) := by
  refine ⟨by have := ht.1; rw [List.length_take]; omega, fun c hc => ht.2 c (List.mem_of_mem_take hc)⟩
set_option maxHeartbeats 4000000 in
theorem lFnPartSets_ok (v u : Value) (code more : List UInt8) (hcl : code.length ≤ 140737488355328) (hml : more.length ≤ 140737488355328) (w : World) (h : Sq fU 1 w v code) (h' : Sq fU 1 w u more) : Fn 9 [v, u] w (fun r _ => r = .bool true) := by
  (refine callsV_of mix Try.func9 c_lFnPartSets ?_; simp only [↓vsd, vsn, gW, qd, qv, ev, pick, argE, zipE, ne_eq, eq_self, forall_const, implies_true, if_true, if_false, reduceIte, reduceCtorEq, Nat.reduceEqDiff, Nat.reduceAdd, Nat.reduceLT, ↓us_lFnPartSets, r_lFnPartSets])
  simp only [↓vsd, vsn, gW, qd, qv, ev, pick, argE, zipE, ne_eq, eq_self, forall_const, implies_true, if_true, if_false, reduceIte, reduceCtorEq, Nat.reduceEqDiff, Nat.reduceAdd, Nat.reduceLT, ↓us_lFnPartSets, r_lFnPartSets, h.facts, h'.facts]
  refine ⟨inR_i64 (by omega), fun _ => Ext.refl _, fun hsm => ?_⟩
  have hlen : code.length ≤ 1048576 ∧ more.length ≤ 1048576 := by omega
  refine m_call (sDrawPartSet_ok v code hlen.1 _ h) ?_
  rintro _ w1 hx1 ⟨e, x, rfl, he10, hx10⟩
  obtain ⟨k, hk⟩ : ∃ k, IsRow e → IsOrd e k := by
    by_cases he : IsRow e
    · obtain ⟨k, hk⟩ := ord_exists he; exact ⟨k, fun _ => hk⟩
    · exact ⟨0, fun hh => absurd hh he⟩
  simp only [↓vsd, vsn, gW, qd, qv, ev, pick, argE, zipE, ne_eq, eq_self, forall_const, implies_true, if_true, if_false, reduceIte, reduceCtorEq, Nat.reduceEqDiff, Nat.reduceAdd, Nat.reduceLT, ↓us_lFnPartSets, r_lFnPartSets]
  refine m_call (iPartSet_ok e x k hk _) ?_
  rintro _ w2 hx2 ⟨y2, rfl, ho2⟩
  simp only [↓vsd, vsn, gW, qd, qv, ev, pick, argE, zipE, ne_eq, eq_self, forall_const, implies_true, if_true, if_false, reduceIte, reduceCtorEq, Nat.reduceEqDiff, Nat.reduceAdd, Nat.reduceLT, ↓us_lFnPartSets, r_lFnPartSets]
  refine m_call (sPartSet_ok e x k hk _) ?_
  rintro _ w3 hx3 ⟨y3, rfl, ho3⟩
  simp only [↓vsd, vsn, gW, qd, qv, ev, pick, argE, zipE, ne_eq, eq_self, forall_const, implies_true, if_true, if_false, reduceIte, reduceCtorEq, Nat.reduceEqDiff, Nat.reduceAdd, Nat.reduceLT, ↓us_lFnPartSets, r_lFnPartSets]
  refine m_call (iLeastIn_ok e x k hk _) ?_
  rintro _ w4 hx4 rfl
  rw [leaV]
  simp only [↓vsd, vsn, gW, qd, qv, ev, pick, argE, zipE, ne_eq, eq_self, forall_const, implies_true, if_true, if_false, reduceIte, reduceCtorEq, Nat.reduceEqDiff, Nat.reduceAdd, Nat.reduceLT, ↓us_lFnPartSets, r_lFnPartSets]
  refine m_call (sLeastIn_ok e x k hk _) ?_
  rintro _ w5 hx5 rfl
  rw [leaV]
  have hx15 := (((hx1.trans hx2).trans hx3).trans hx4).trans hx5
  simp only [↓vsd, vsn, gW, qd, qv, ev, pick, argE, zipE, ne_eq, eq_self, forall_const, implies_true, if_true, if_false, reduceIte, reduceCtorEq, Nat.reduceEqDiff, Nat.reduceAdd, Nat.reduceLT, ↓us_lFnPartSets, r_lFnPartSets]
  refine m_call (sDrawSplitParts_ok u more hlen.2 _ (h'.ext hx15)) ?_
  rintro _ w6 hx6 ⟨t, rfl, ht61⟩
  obtain ⟨n, hn⟩ : ∃ n, IsTch t → LeastP t n := by
    by_cases ht : IsTch t
    · obtain ⟨n, hn⟩ := leastP_ex (t := t) (by have := ht.1; omega); exact ⟨n, fun _ => hn⟩
    · exact ⟨0, fun hh => absurd hh ht⟩
  simp only [↓vsd, vsn, gW, qd, qv, ev, pick, argE, zipE, ne_eq, eq_self, forall_const, implies_true, if_true, if_false, reduceIte, reduceCtorEq, Nat.reduceEqDiff, Nat.reduceAdd, Nat.reduceLT, ↓us_lFnPartSets, r_lFnPartSets]
  refine m_call (iSplitParts_ok t n (by omega) hn _) ?_
  rintro _ w7 hx7 hr7
  have hx37 := (((hx4.trans hx5).trans hx6).trans hx7)
  have hx57 := hx6.trans hx7
  have hx07 := hx15.trans hx57
  have hsl720 : (setL e x k).length ≤ 1000 := by
    by_cases h2 : Two e x
    · rw [setL, if_pos h2, srt_len, prt_len]; have := (hk h2.1).2.1; omega
    · rw [setL, if_neg h2]; simp
  by_cases ht : IsTch t
  · have hp := hn ht
    obtain ⟨⟨hn0, hnl⟩, ⟨hpm, hpr⟩, hpno⟩ := hp
    have hp : LeastP t n := ⟨⟨hn0, hnl⟩, ⟨hpm, hpr⟩, hpno⟩
    rw [splV, if_pos ht] at hr7
    subst hr7
    simp only [↓vsd, vsn, gW, qd, qv, ev, pick, argE, zipE, ne_eq, eq_self, forall_const, implies_true, if_true, if_false, reduceIte, reduceCtorEq, Nat.reduceEqDiff, Nat.reduceAdd, Nat.reduceLT, ↓us_lFnPartSets, r_lFnPartSets]
    refine m_call (sSplitParts_ok t n (by omega) hn _) ?_
    rintro _ w8 hx8 hr8
    rw [splV, if_pos ht] at hr8
    subst hr8
    simp only [↓vsd, vsn, gW, qd, qv, ev, pick, argE, zipE, ne_eq, eq_self, forall_const, implies_true, if_true, if_false, reduceIte, reduceCtorEq, Nat.reduceEqDiff, Nat.reduceAdd, Nat.reduceLT, ↓us_lFnPartSets, r_lFnPartSets]
    refine m_call (lqSameS_ok y2 y3 _ _ _ (by first | exact (ho2.sq.ext hx3).ext (hx37.trans hx8) | exact ((ho2.sq.ext hx3).ext (hx37.trans hx8)).ext (dr (Ext.refl _))) (by first | exact ho3.sq.ext (hx37.trans hx8) | exact (ho3.sq.ext (hx37.trans hx8)).ext (dr (Ext.refl _))) (by omega)) ?_
    rintro _ w9 hx9 rfl
    have hx9 : Ext w8 w9 := by first | exact hx9 | exact ud hx9 | exact ud (ud hx9)
    have hx09 := (hx07.trans hx8).trans hx9
    have hq9 := ((ho2.sq.ext hx3).ext (hx37.trans hx8)).ext hx9
    simp only [↓vsd, vsn, gW, qd, qv, ev, pick, argE, zipE, ne_eq, eq_self, forall_const, implies_true, if_true, if_false, reduceIte, reduceCtorEq, Nat.reduceEqDiff, Nat.reduceAdd, Nat.reduceLT, ↓us_lFnPartSets, r_lFnPartSets]
    have hq61 : t.length / n ≤ t.length := Nat.div_le_self _ _
    have htn : (t.take n).length = n := by rw [List.length_take]; omega
    refine m_upto (t.length / n) (fun i vs w' => vs = [S (repT (t.take n) i), .int .i64 i] ∧ Ext w9 w') ⟨rfl, by first | exact Ext.refl _ | exact dr (Ext.refl _)⟩ ?_
    rintro i vs w10 hi ⟨rfl, hx10'⟩
    by_cases hlt : i < t.length / n
    · have hltI : (i : Int) < ((t.length / n : Nat) : Int) := Int.ofNat_lt.2 hlt
      have hsn := repT_snoc (t.take n) i
      have hrl := repT_len (t.take n) i
      rw [htn] at hrl
      have hin : i * n ≤ t.length := Nat.le_trans (Nat.mul_le_mul_right n (Nat.le_of_lt hlt)) (Nat.div_mul_le_self _ _)
      have hi61 : i < t.length := Nat.lt_of_lt_of_le hlt hq61
      simp only [↓vsd, vsn, gW, qd, qv, ev, pick, argE, zipE, ne_eq, eq_self, forall_const, implies_true, if_true, if_false, reduceIte, reduceCtorEq, Nat.reduceEqDiff, Nat.reduceAdd, Nat.reduceLT, ↓us_lFnPartSets, r_lFnPartSets, hltI]
      exact ⟨by rw [hrl, htn]; omega, inR_i64 (by omega), UpTo.next hlt ⟨by rw [hsn]; rfl, by first | exact hx10' | exact dr hx10'⟩⟩
    · obtain rfl : i = t.length / n := by omega
      have hltI : ¬ ((t.length / n : Nat) : Int) < ((t.length / n : Nat) : Int) := Int.lt_irrefl _
      rw [hpr]
      simp only [↓vsd, vsn, gW, qd, qv, ev, pick, argE, zipE, ne_eq, eq_self, forall_const, implies_true, if_true, if_false, reduceIte, reduceCtorEq, Nat.reduceEqDiff, Nat.reduceAdd, Nat.reduceLT, ↓us_lFnPartSets, r_lFnPartSets, hltI]
      refine m_call (iSplitParts_ok (t.take n) n (by omega) (fun _ => leastP_part hp) _) ?_
      rintro _ w11 hx11 hr11
      have hnn : n / n = 1 := Nat.div_self hn0
      rw [splV, if_pos (tch_part ht hn0), htn, hnn] at hr11
      subst hr11
      have hxL := (hx09.trans hx10').trans hx11
      have hqL := (hq9.ext hx10').ext hx11
      simp only [↓vsd, vsn, gW, qd, qv, ev, pick, argE, zipE, ne_eq, eq_self, forall_const, implies_true, if_true, if_false, reduceIte, reduceCtorEq, Nat.reduceEqDiff, Nat.reduceAdd, Nat.reduceLT, ↓us_lFnPartSets, r_lFnPartSets]
      refine ⟨fun hne => absurd rfl hne, fun _ => ?_⟩
      refine ⟨fun _ => hxL, fun h2 => ?_⟩
      have h2D := decide_eq_true h2
      have hO := hk h2.1
      have hsl : (setL e x k).length = k := by rw [setL, if_pos h2, srt_len, prt_len]
      have hk1 := hO.1
      have hk2 := hO.2.1
      have h2y : Two e (timesL e x) := ⟨h2.1, timesL_row h2.1 h2.2.1 h2.2.2, by rw [timesL_len]; exact h2.2.2⟩
      have hsy : setL e (timesL e x) k = setL e x k := by rw [setL, if_pos h2y, setL, if_pos h2, prt_turn h2 hO]
      refine m_call (sTimes_ok e x _) ?_
      rintro _ wa hxa hra
      rw [timesV, if_pos (show IsRow e ∧ IsRow x ∧ e.length = x.length from h2)] at hra
      subst hra
      simp only [↓vsd, vsn, gW, qd, qv, ev, pick, argE, zipE, ne_eq, eq_self, forall_const, implies_true, if_true, if_false, reduceIte, reduceCtorEq, Nat.reduceEqDiff, Nat.reduceAdd, Nat.reduceLT, ↓us_lFnPartSets, r_lFnPartSets]
      refine m_call (iLeastIn_ok e (timesL e x) k hk _) ?_
      rintro _ wb hxb rfl
      have h2yD := decide_eq_true h2y
      rw [leaV, hsy]
      simp only [↓vsd, vsn, gW, qd, qv, ev, pick, argE, zipE, ne_eq, eq_self, forall_const, implies_true, if_true, if_false, reduceIte, reduceCtorEq, Nat.reduceEqDiff, Nat.reduceAdd, Nat.reduceLT, ↓us_lFnPartSets, r_lFnPartSets]
      refine m_call (sOrderOf_ok e k hk _) ?_
      rintro _ wc hxc hrc
      rw [ordV, if_pos h2.1] at hrc
      subst hrc
      have hxL3 := ((hxL.trans hxa).trans hxb).trans hxc
      have hq3 := ((hqL.ext hxa).ext hxb).ext hxc
      have a3 := hq3.at0 [] (by omega)
      have hslI : (((setL e x k).length : Nat) : Int) = (k : Nat) := by omega
      simp only [↓vsd, vsn, gW, qd, qv, ev, pick, argE, zipE, ne_eq, eq_self, forall_const, implies_true, if_true, if_false, reduceIte, reduceCtorEq, Nat.reduceEqDiff, Nat.reduceAdd, Nat.reduceLT, ↓us_lFnPartSets, r_lFnPartSets, h2yD, hq3.facts, a3, hslI]
      exact ⟨by omega, hxL3⟩
  · rw [splV, if_neg ht] at hr7
    subst hr7
    simp only [↓vsd, vsn, gW, qd, qv, ev, pick, argE, zipE, ne_eq, eq_self, forall_const, implies_true, if_true, if_false, reduceIte, reduceCtorEq, Nat.reduceEqDiff, Nat.reduceAdd, Nat.reduceLT, ↓us_lFnPartSets, r_lFnPartSets]
    refine m_call (sSplitParts_ok t n (by omega) hn _) ?_
    rintro _ w8 hx8 hr8
    rw [splV, if_neg ht] at hr8
    subst hr8
    simp only [↓vsd, vsn, gW, qd, qv, ev, pick, argE, zipE, ne_eq, eq_self, forall_const, implies_true, if_true, if_false, reduceIte, reduceCtorEq, Nat.reduceEqDiff, Nat.reduceAdd, Nat.reduceLT, ↓us_lFnPartSets, r_lFnPartSets]
    refine m_call (lqSameS_ok y2 y3 _ _ _ (by first | exact (ho2.sq.ext hx3).ext (hx37.trans hx8) | exact ((ho2.sq.ext hx3).ext (hx37.trans hx8)).ext (dr (Ext.refl _))) (by first | exact ho3.sq.ext (hx37.trans hx8) | exact (ho3.sq.ext (hx37.trans hx8)).ext (dr (Ext.refl _))) (by omega)) ?_
    rintro _ w9 hx9 rfl
    have hx9 : Ext w8 w9 := by first | exact hx9 | exact ud hx9 | exact ud (ud hx9)
    have hxL := (hx07.trans hx8).trans hx9
    have hqL := ((ho2.sq.ext hx3).ext (hx37.trans hx8)).ext hx9
    simp only [↓vsd, vsn, gW, qd, qv, ev, pick, argE, zipE, ne_eq, eq_self, forall_const, implies_true, if_true, if_false, reduceIte, reduceCtorEq, Nat.reduceEqDiff, Nat.reduceAdd, Nat.reduceLT, ↓us_lFnPartSets, r_lFnPartSets]
    refine ⟨fun _ => hxL, fun h2 => ?_⟩
    have h2D := decide_eq_true h2
    have hO := hk h2.1
    have hsl : (setL e x k).length = k := by rw [setL, if_pos h2, srt_len, prt_len]
    have hk1 := hO.1
    have hk2 := hO.2.1
    have h2y : Two e (timesL e x) := ⟨h2.1, timesL_row h2.1 h2.2.1 h2.2.2, by rw [timesL_len]; exact h2.2.2⟩
    have hsy : setL e (timesL e x) k = setL e x k := by rw [setL, if_pos h2y, setL, if_pos h2, prt_turn h2 hO]
    refine m_call (sTimes_ok e x _) ?_
    rintro _ wa hxa hra
    rw [timesV, if_pos (show IsRow e ∧ IsRow x ∧ e.length = x.length from h2)] at hra
    subst hra
    simp only [↓vsd, vsn, gW, qd, qv, ev, pick, argE, zipE, ne_eq, eq_self, forall_const, implies_true, if_true, if_false, reduceIte, reduceCtorEq, Nat.reduceEqDiff, Nat.reduceAdd, Nat.reduceLT, ↓us_lFnPartSets, r_lFnPartSets]
    refine m_call (iLeastIn_ok e (timesL e x) k hk _) ?_
    rintro _ wb hxb rfl
    have h2yD := decide_eq_true h2y
    rw [leaV, hsy]
    simp only [↓vsd, vsn, gW, qd, qv, ev, pick, argE, zipE, ne_eq, eq_self, forall_const, implies_true, if_true, if_false, reduceIte, reduceCtorEq, Nat.reduceEqDiff, Nat.reduceAdd, Nat.reduceLT, ↓us_lFnPartSets, r_lFnPartSets]
    refine m_call (sOrderOf_ok e k hk _) ?_
    rintro _ wc hxc hrc
    rw [ordV, if_pos h2.1] at hrc
    subst hrc
    have hxL3 := ((hxL.trans hxa).trans hxb).trans hxc
    have hq3 := ((hqL.ext hxa).ext hxb).ext hxc
    have a3 := hq3.at0 [] (by omega)
    have hslI : (((setL e x k).length : Nat) : Int) = (k : Nat) := by omega
    simp only [↓vsd, vsn, gW, qd, qv, ev, pick, argE, zipE, ne_eq, eq_self, forall_const, implies_true, if_true, if_false, reduceIte, reduceCtorEq, Nat.reduceEqDiff, Nat.reduceAdd, Nat.reduceLT, ↓us_lFnPartSets, r_lFnPartSets, h2yD, hq3.facts, a3, hslI]
    exact ⟨by omega, hxL3⟩
end Go.Proofs.Ytnincmnkdjlndaa
