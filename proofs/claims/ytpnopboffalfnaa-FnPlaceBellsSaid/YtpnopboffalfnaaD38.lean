/-
  The call of the law FnPlaceBells.
  Conditions: none.
-/
import Derived.Test.YtpnopboffalfnaaD37
import Derived.Test.YtpnopboffalfnaaD3
import Derived.Test.YtpnopboffalfnaaA52
import Derived.Test.YtpnopboffalfnaaA26
import Derived.Test.YtpnopboffalfnaaA23
set_option linter.unusedSimpArgs false
set_option linter.unusedVariables false
set_option linter.defProp false
namespace Go.Proofs.Ytpnopboffalfnaa
open Go Go.RowKit
section
variable (P : Program) (k : KT) (e : Env) (w : World)
abbrev b7_1 : X := (.cond (.t 32) (.seq (.reg [4] (.c (.q 4 [] (.mv (.c (.bool true)))) .nil)) .ret) .skip)
def t7_1 := b7_1
theorem u7_1 : vcK P t7_1 k e w = vcK P b7_1 k e w := rfl
abbrev b7_2 : X := (.cond (.t 86) (.seq (.reg [4] (.c (.q 4 [] (.mv (.c (.bool false)))) .nil)) .ret) .skip)
def t7_2 := b7_2
theorem u7_2 : vcK P t7_2 k e w = vcK P b7_2 k e w := rfl
abbrev b7_3 : X := (.cond (.t 124) (.seq (.reg [4] (.c (.q 4 [] (.mv (.c (.bool false)))) .nil)) .ret) .skip)
def t7_3 := b7_3
theorem u7_3 : vcK P t7_3 k e w = vcK P b7_3 k e w := rfl
abbrev b7_4 : X := (.cond (.t 172) (.seq (.reg [4] (.c (.q 4 [] (.mv (.c (.bool false)))) .nil)) .ret) .skip)
def t7_4 := b7_4
theorem u7_4 : vcK P t7_4 k e w = vcK P b7_4 k e w := rfl
abbrev b7_5 : X := (.seq (.drw [1, 5, 7, 125, 126, 127, 172] (.c (.q 138 [] (.mv (.t 20))) (.c (.q 139 [] (.not (.t 138))) (.c (.q 140 [] (.mv (.t 139))) (.c (.q 141 [(140, false)] (.mv (.t 19))) (.c (.q 142 [(140, false)] (.lens (.t 141))) (.c (.q 143 [(140, false)] (.fa 2 (.t 5))) (.c (.q 144 [(140, false)] (.ld (.t 143))) (.c (.q 145 [(140, false)] (.lens (.t 144))) (.c (.q 146 [(140, false)] (.bin .add (.t 145) (.c (.int .i64 1)))) (.c (.q 147 [(140, false)] (.bin .neq (.t 142) (.t 146))) (.c (.q 148 [] (.pick (.t 140) (.c (.bool true)) (.t 147))) (.c (.q 149 [] (.mv (.t 148))) (.c (.q 150 [(149, false)] (.mv (.t 19))) (.c (.q 151 [(149, false)] (.ia 1 (.t 150) (.c (.int .i64 0)))) (.c (.q 152 [(149, false)] (.ld (.t 151))) (.c (.q 153 [(149, false)] (.mv (.t 18))) (.c (.q 154 [(149, false)] (.bin .neq (.t 152) (.t 153))) (.c (.q 155 [] (.pick (.t 149) (.c (.bool true)) (.t 154))) (.c (.q 156 [] (.mv (.t 155))) (.c (.q 157 [(156, false)] (.mv (.t 19))) (.c (.q 158 [(156, false)] (.mv (.t 19))) (.c (.q 159 [(156, false)] (.lens (.t 158))) (.c (.q 160 [(156, false)] (.bin .sub (.t 159) (.c (.int .i64 1)))) (.c (.q 161 [(156, false)] (.ia 1 (.t 157) (.t 160))) (.c (.q 162 [(156, false)] (.ld (.t 161))) (.c (.q 163 [(156, false)] (.mv (.t 7))) (.c (.q 164 [(156, false)] (.mv (.t 17))) (.c (.q 165 [(156, false)] (.bin .add (.t 164) (.c (.int .i64 1)))) (.c (.q 166 [(156, false)] (.mv (.t 7))) (.c (.q 167 [(156, false)] (.lens (.t 166))) (.c (.q 168 [(156, false)] (.bin .rem (.t 165) (.t 167))) (.c (.q 169 [(156, false)] (.ia 1 (.t 163) (.t 168))) (.c (.q 170 [(156, false)] (.ld (.t 169))) (.c (.q 171 [(156, false)] (.bin .neq (.t 162) (.t 170))) (.c (.q 172 [] (.pick (.t 156) (.c (.bool true)) (.t 171))) .nil)))))))))))))))))))))))))))))))))))) t7_4)
def t7_5 := b7_5
theorem u7_5 : vcK P t7_5 k e w = vcK P b7_5 k e w := rfl
abbrev b7_6 : X := (.seq (.reg [1, 5, 7, 17, 18, 19, 20, 125, 126, 127] (.c (.q 133 [] (.lda 3 (.t 5))) (.c (.q 134 [] (.mv (.t 18))) (.c (.e (some 135) [] (.call false 67 [(.t 133), (.t 134)])) (.c (.q 132 [] (.mv (.t 135))) (.c (.q 136 [] (.ext 0 (.t 132))) (.c (.q 137 [] (.ext 1 (.t 132))) (.c (.q 19 [] (.mv (.t 136))) (.c (.q 20 [] (.mv (.t 137))) .nil))))))))) t7_5)
def t7_6 := b7_6
theorem u7_6 : vcK P t7_6 k e w = vcK P b7_6 k e w := rfl
abbrev b7_7 : X := (.reg [1, 5, 7, 125, 126, 127] (.c (.q 173 [] (.bin .add (.t 127) (.c (.int .i64 1)))) (.c (.q 127 [] (.mv (.t 173))) .nil)))
def t7_7 := b7_7
theorem u7_7 : vcK P t7_7 k e w = vcK P b7_7 k e w := rfl
abbrev b7_8 : X := (.seq (.blk 1 (.seq (.reg [1, 5, 7, 17, 18, 125, 126, 127] (.c (.q 129 [] (.mv (.t 127))) (.c (.q 130 [] (.ia 1 (.t 125) (.t 127))) (.c (.q 131 [] (.ld (.t 130))) (.c (.q 17 [] (.mv (.t 129))) (.c (.q 18 [] (.mv (.t 131))) .nil)))))) t7_6)) t7_7)
def t7_8 := b7_8
theorem u7_8 : vcK P t7_8 k e w = vcK P b7_8 k e w := rfl
abbrev b7_9 : X := (.seq (.cond (.t 128) .skip (.exit 0)) t7_8)
def t7_9 := b7_9
theorem u7_9 : vcK P t7_9 k e w = vcK P b7_9 k e w := rfl
abbrev b7_10 : X := (.seq (.reg [1, 5, 7, 125, 126, 127, 128] (.c (.q 128 [] (.bin .lss (.t 127) (.t 126))) .nil)) t7_9)
def t7_10 := b7_10
theorem u7_10 : vcK P t7_10 k e w = vcK P b7_10 k e w := rfl
abbrev b7_11 : X := (.blk 0 (.loop [127] [1, 5, 7, 125, 126] t7_10))
def t7_11 := b7_11
theorem u7_11 : vcK P t7_11 k e w = vcK P b7_11 k e w := rfl
abbrev b7_12 : X := (.seq (.reg [1, 5, 7, 125, 126, 127] (.c (.q 125 [] (.mv (.t 7))) (.c (.q 126 [] (.lens (.t 125))) (.c (.q 127 [] (.mv (.c (.int .i64 0)))) .nil)))) t7_11)
def t7_12 := b7_12
theorem u7_12 : vcK P t7_12 k e w = vcK P b7_12 k e w := rfl
abbrev b7_13 : X := (.seq (.seq (.reg [1, 5, 7, 124] (.c (.q 93 [] (.mv (.t 16))) (.c (.q 94 [] (.not (.t 93))) (.c (.q 95 [] (.mv (.t 94))) (.c (.q 96 [(95, false)] (.mv (.t 7))) (.c (.q 97 [(95, false)] (.lens (.t 96))) (.c (.q 98 [(95, false)] (.bin .eql (.t 97) (.c (.int .i64 0)))) (.c (.q 99 [] (.pick (.t 95) (.c (.bool true)) (.t 98))) (.c (.q 100 [] (.mv (.t 99))) (.c (.q 101 [(100, false)] (.mv (.t 7))) (.c (.q 102 [(100, false)] (.ia 1 (.t 101) (.c (.int .i64 0)))) (.c (.q 103 [(100, false)] (.ld (.t 102))) (.c (.q 104 [(100, false)] (.mv (.t 6))) (.c (.q 105 [(100, false)] (.bin .neq (.t 103) (.t 104))) (.c (.q 106 [] (.pick (.t 100) (.c (.bool true)) (.t 105))) (.c (.q 107 [] (.mv (.t 106))) (.c (.q 108 [(107, false)] (.mv (.t 15))) (.c (.q 109 [(107, false)] (.mv (.t 7))) (.c (.q 110 [(107, false)] (.lens (.t 109))) (.c (.q 111 [(107, false)] (.bin .rem (.t 108) (.t 110))) (.c (.q 112 [(107, false)] (.bin .neq (.t 111) (.c (.int .i64 0)))) (.c (.q 113 [] (.pick (.t 107) (.c (.bool true)) (.t 112))) (.c (.q 114 [] (.mv (.t 113))) (.c (.q 115 [(114, false)] (.mv (.t 11))) (.c (.q 116 [(114, false)] (.lens (.t 115))) (.c (.q 117 [(114, false)] (.mv (.t 7))) (.c (.q 118 [(114, false)] (.lens (.t 117))) (.c (.q 119 [(114, false)] (.fa 2 (.t 5))) (.c (.q 120 [(114, false)] (.ld (.t 119))) (.c (.q 121 [(114, false)] (.lens (.t 120))) (.c (.q 122 [(114, false)] (.bin .mul (.t 118) (.t 121))) (.c (.q 123 [(114, false)] (.bin .neq (.t 116) (.t 122))) (.c (.q 124 [] (.pick (.t 114) (.c (.bool true)) (.t 123))) .nil))))))))))))))))))))))))))))))))) t7_3) t7_12)
def t7_13 := b7_13
theorem u7_13 : vcK P t7_13 k e w = vcK P b7_13 k e w := rfl
abbrev b7_14 : X := (.cond (.t 87) (.seq (.reg [1, 5, 6, 7, 11, 15, 16] (.c (.q 89 [] (.lda 3 (.t 5))) (.c (.e (some 90) [] (.call false 41 [(.t 89)])) (.c (.q 88 [] (.mv (.t 90))) (.c (.q 91 [] (.ext 0 (.t 88))) (.c (.q 92 [] (.ext 1 (.t 88))) (.c (.q 15 [] (.mv (.t 91))) (.c (.q 16 [] (.mv (.t 92))) .nil)))))))) t7_13) .skip)
def t7_14 := b7_14
theorem u7_14 : vcK P t7_14 k e w = vcK P b7_14 k e w := rfl
abbrev b7_15 : X := (.cond (.t 220) (.seq (.reg [4] (.c (.q 4 [] (.mv (.c (.bool false)))) .nil)) .ret) .skip)
def t7_15 := b7_15
theorem u7_15 : vcK P t7_15 k e w = vcK P b7_15 k e w := rfl
abbrev b7_16 : X := (.seq (.reg [4] (.c (.q 221 [] (.mv (.t 22))) (.c (.q 222 [] (.mv (.t 26))) (.c (.e (some 223) [] (.call false 73 [(.t 221), (.t 222)])) (.c (.q 4 [] (.mv (.t 223))) .nil))))) .ret)
def t7_16 := b7_16
theorem u7_16 : vcK P t7_16 k e w = vcK P b7_16 k e w := rfl
abbrev b7_17 : X := (.seq (.seq (.reg [22, 26, 220] (.c (.q 196 [] (.mv (.t 23))) (.c (.q 197 [] (.mv (.t 25))) (.c (.q 198 [] (.beq true (.t 196) (.t 197))) (.c (.q 199 [] (.mv (.t 198))) (.c (.q 200 [(199, false)] (.mv (.t 22))) (.c (.q 201 [(199, false)] (.mv (.t 24))) (.c (.e (some 202) [(199, false)] (.call false 66 [(.t 200), (.t 201)])) (.c (.q 203 [(199, false)] (.not (.t 202))) (.c (.q 204 [] (.pick (.t 199) (.c (.bool true)) (.t 203))) (.c (.q 205 [] (.mv (.t 204))) (.c (.q 206 [(205, false)] (.mv (.t 27))) (.c (.q 207 [(205, false)] (.mv (.t 29))) (.c (.q 208 [(205, false)] (.beq true (.t 206) (.t 207))) (.c (.q 209 [] (.pick (.t 205) (.c (.bool true)) (.t 208))) (.c (.q 210 [] (.mv (.t 209))) (.c (.q 211 [(210, false)] (.mv (.t 26))) (.c (.q 212 [(210, false)] (.mv (.t 28))) (.c (.e (some 213) [(210, false)] (.call false 66 [(.t 211), (.t 212)])) (.c (.q 214 [(210, false)] (.not (.t 213))) (.c (.q 215 [] (.pick (.t 210) (.c (.bool true)) (.t 214))) (.c (.q 216 [] (.mv (.t 215))) (.c (.q 217 [(216, false)] (.mv (.t 23))) (.c (.q 218 [(216, false)] (.mv (.t 27))) (.c (.q 219 [(216, false)] (.beq true (.t 217) (.t 218))) (.c (.q 220 [] (.pick (.t 216) (.c (.bool true)) (.t 219))) .nil)))))))))))))))))))))))))) t7_15) t7_16)
def t7_17 := b7_17
theorem u7_17 : vcK P t7_17 k e w = vcK P b7_17 k e w := rfl
abbrev b7_18 : X := (.seq (.reg [22, 23, 24, 25, 26, 27, 28, 29] (.c (.q 192 [] (.mv (.t 21))) (.c (.e (some 193) [] (.call false 72 [(.t 192)])) (.c (.q 191 [] (.mv (.t 193))) (.c (.q 194 [] (.ext 0 (.t 191))) (.c (.q 195 [] (.ext 1 (.t 191))) (.c (.q 28 [] (.mv (.t 194))) (.c (.q 29 [] (.mv (.t 195))) .nil)))))))) t7_17)
def t7_18 := b7_18
theorem u7_18 : vcK P t7_18 k e w = vcK P b7_18 k e w := rfl
abbrev b7_19 : X := (.seq (.reg [21, 22, 23, 24, 25, 26, 27] (.c (.q 187 [] (.mv (.t 21))) (.c (.e (some 188) [] (.call false 71 [(.t 187)])) (.c (.q 186 [] (.mv (.t 188))) (.c (.q 189 [] (.ext 0 (.t 186))) (.c (.q 190 [] (.ext 1 (.t 186))) (.c (.q 26 [] (.mv (.t 189))) (.c (.q 27 [] (.mv (.t 190))) .nil)))))))) t7_18)
def t7_19 := b7_19
theorem u7_19 : vcK P t7_19 k e w = vcK P b7_19 k e w := rfl
abbrev b7_20 : X := (.seq (.reg [21, 22, 23, 24, 25] (.c (.q 182 [] (.mv (.t 21))) (.c (.e (some 183) [] (.call false 70 [(.t 182)])) (.c (.q 181 [] (.mv (.t 183))) (.c (.q 184 [] (.ext 0 (.t 181))) (.c (.q 185 [] (.ext 1 (.t 181))) (.c (.q 24 [] (.mv (.t 184))) (.c (.q 25 [] (.mv (.t 185))) .nil)))))))) t7_19)
def t7_20 := b7_20
theorem u7_20 : vcK P t7_20 k e w = vcK P b7_20 k e w := rfl
abbrev b7_21 : X := (.seq (.reg [21, 22, 23] (.c (.q 177 [] (.mv (.t 21))) (.c (.e (some 178) [] (.call false 69 [(.t 177)])) (.c (.q 176 [] (.mv (.t 178))) (.c (.q 179 [] (.ext 0 (.t 176))) (.c (.q 180 [] (.ext 1 (.t 176))) (.c (.q 22 [] (.mv (.t 179))) (.c (.q 23 [] (.mv (.t 180))) .nil)))))))) t7_20)
def t7_21 := b7_21
theorem u7_21 : vcK P t7_21 k e w = vcK P b7_21 k e w := rfl
abbrev b7_22 : X := (.seq (.reg [21] (.c (.q 174 [] (.mv (.t 1))) (.c (.e (some 175) [] (.call false 68 [(.t 174)])) (.c (.q 21 [] (.mv (.t 175))) .nil)))) t7_21)
def t7_22 := b7_22
theorem u7_22 : vcK P t7_22 k e w = vcK P b7_22 k e w := rfl
abbrev b7_23 : X := (.seq (.seq (.reg [1, 5, 6, 7, 11, 87] (.c (.q 87 [] (.mv (.t 8))) .nil)) t7_14) t7_22)
def t7_23 := b7_23
theorem u7_23 : vcK P t7_23 k e w = vcK P b7_23 k e w := rfl
abbrev b7_24 : X := (.seq (.seq (.reg [1, 5, 6, 7, 8, 11, 86] (.c (.q 62 [] (.mv (.t 8))) (.c (.q 63 [] (.mv (.t 10))) (.c (.q 64 [] (.beq true (.t 62) (.t 63))) (.c (.q 65 [] (.mv (.t 64))) (.c (.q 66 [(65, false)] (.mv (.t 7))) (.c (.q 67 [(65, false)] (.mv (.t 9))) (.c (.e (some 68) [(65, false)] (.call false 66 [(.t 66), (.t 67)])) (.c (.q 69 [(65, false)] (.not (.t 68))) (.c (.q 70 [] (.pick (.t 65) (.c (.bool true)) (.t 69))) (.c (.q 71 [] (.mv (.t 70))) (.c (.q 72 [(71, false)] (.mv (.t 12))) (.c (.q 73 [(71, false)] (.mv (.t 14))) (.c (.q 74 [(71, false)] (.beq true (.t 72) (.t 73))) (.c (.q 75 [] (.pick (.t 71) (.c (.bool true)) (.t 74))) (.c (.q 76 [] (.mv (.t 75))) (.c (.q 77 [(76, false)] (.mv (.t 11))) (.c (.q 78 [(76, false)] (.mv (.t 13))) (.c (.e (some 79) [(76, false)] (.call false 66 [(.t 77), (.t 78)])) (.c (.q 80 [(76, false)] (.not (.t 79))) (.c (.q 81 [] (.pick (.t 76) (.c (.bool true)) (.t 80))) (.c (.q 82 [] (.mv (.t 81))) (.c (.q 83 [(82, false)] (.mv (.t 8))) (.c (.q 84 [(82, false)] (.mv (.t 12))) (.c (.q 85 [(82, false)] (.beq true (.t 83) (.t 84))) (.c (.q 86 [] (.pick (.t 82) (.c (.bool true)) (.t 85))) .nil)))))))))))))))))))))))))) t7_2) t7_23)
def t7_24 := b7_24
theorem u7_24 : vcK P t7_24 k e w = vcK P b7_24 k e w := rfl
abbrev b7_25 : X := (.seq (.reg [1, 5, 6, 7, 8, 9, 10, 11, 12, 13, 14] (.c (.q 57 [] (.lda 3 (.t 5))) (.c (.q 58 [] (.mv (.t 6))) (.c (.e (some 59) [] (.call false 65 [(.t 57), (.t 58)])) (.c (.q 56 [] (.mv (.t 59))) (.c (.q 60 [] (.ext 0 (.t 56))) (.c (.q 61 [] (.ext 1 (.t 56))) (.c (.q 13 [] (.mv (.t 60))) (.c (.q 14 [] (.mv (.t 61))) .nil))))))))) t7_24)
def t7_25 := b7_25
theorem u7_25 : vcK P t7_25 k e w = vcK P b7_25 k e w := rfl
abbrev b7_26 : X := (.seq (.reg [1, 5, 6, 7, 8, 9, 10, 11, 12] (.c (.q 51 [] (.lda 3 (.t 5))) (.c (.q 52 [] (.mv (.t 6))) (.c (.e (some 53) [] (.call false 64 [(.t 51), (.t 52)])) (.c (.q 50 [] (.mv (.t 53))) (.c (.q 54 [] (.ext 0 (.t 50))) (.c (.q 55 [] (.ext 1 (.t 50))) (.c (.q 11 [] (.mv (.t 54))) (.c (.q 12 [] (.mv (.t 55))) .nil))))))))) t7_25)
def t7_26 := b7_26
theorem u7_26 : vcK P t7_26 k e w = vcK P b7_26 k e w := rfl
abbrev b7_27 : X := (.seq (.reg [1, 5, 6, 7, 8, 9, 10] (.c (.q 45 [] (.lda 3 (.t 5))) (.c (.q 46 [] (.mv (.t 6))) (.c (.e (some 47) [] (.call false 63 [(.t 45), (.t 46)])) (.c (.q 44 [] (.mv (.t 47))) (.c (.q 48 [] (.ext 0 (.t 44))) (.c (.q 49 [] (.ext 1 (.t 44))) (.c (.q 9 [] (.mv (.t 48))) (.c (.q 10 [] (.mv (.t 49))) .nil))))))))) t7_26)
def t7_27 := b7_27
theorem u7_27 : vcK P t7_27 k e w = vcK P b7_27 k e w := rfl
abbrev b7_28 : X := (.seq (.reg [1, 5, 6, 7, 8] (.c (.q 39 [] (.lda 3 (.t 5))) (.c (.q 40 [] (.mv (.t 6))) (.c (.e (some 41) [] (.call false 62 [(.t 39), (.t 40)])) (.c (.q 38 [] (.mv (.t 41))) (.c (.q 42 [] (.ext 0 (.t 38))) (.c (.q 43 [] (.ext 1 (.t 38))) (.c (.q 7 [] (.mv (.t 42))) (.c (.q 8 [] (.mv (.t 43))) .nil))))))))) t7_27)
def t7_28 := b7_28
theorem u7_28 : vcK P t7_28 k e w = vcK P b7_28 k e w := rfl
abbrev b7_29 : X := (.seq (.reg [1, 5, 6] (.c (.q 34 [] (.mv (.t 0))) (.c (.e (some 35) [] (.call false 61 [(.t 34)])) (.c (.q 33 [] (.mv (.t 35))) (.c (.q 36 [] (.ext 0 (.t 33))) (.c (.q 37 [] (.ext 1 (.t 33))) (.c (.e (some 5) [] (.al 41 [(S []), (.int .i64 0), (.slice none 0 0)])) (.c (.e none [] (.st 3 (.t 5) (.t 36))) (.c (.q 6 [] (.mv (.t 37))) .nil))))))))) t7_28)
def t7_29 := b7_29
theorem u7_29 : vcK P t7_29 k e w = vcK P b7_29 k e w := rfl
abbrev b7_30 : X := (.seq (.seq (.reg [0, 1, 32] (.c (.q 30 [] (.mv (.t 0))) (.c (.q 31 [] (.mv (.t 1))) (.c (.e (some 32) [] (.call false 31 [(.t 30), (.t 31)])) .nil)))) t7_1) t7_29)
def t7_30 := b7_30
theorem u7_30 : vcK P t7_30 k e w = vcK P b7_30 k e w := rfl
abbrev b7_0 : X := (.seq (.reg [0, 1] (.c (.q 4 [] (.mv (.c (.bool false)))) .nil)) t7_30)
def x_lFnPlaceBells := b7_0
theorem u7_0 : vcK P x_lFnPlaceBells k e w = vcK P b7_0 k e w := rfl
def r_lFnPlaceBells : List XO := [(.mv (.t 4))]
theorem c_lFnPlaceBells : convF Try.prog [169, 170, 207, 208, 210, 227, 232, 233, 255, 259, 268, 269, 270, 280, 281, 296, 299, 306, 307, 309] Try.f7 [([0, 1], []), ([0, 1, 32], []), ([4], []), ([1, 5, 6], []), ([1, 5, 6, 7, 8], []), ([1, 5, 6, 7, 8, 9, 10], []), ([1, 5, 6, 7, 8, 9, 10, 11, 12], []), ([1, 5, 6, 7, 8, 9, 10, 11, 12, 13, 14], []), ([1, 5, 6, 7, 8, 11, 86], []), ([4], []), ([1, 5, 6, 7, 11, 87], []), ([1, 5, 6, 7, 11, 15, 16], []), ([1, 5, 7, 124], []), ([4], []), ([1, 5, 7, 125, 126, 127], []), ([127], [1, 5, 7, 125, 126]), ([1, 5, 7, 125, 126, 127, 128], []), ([1, 5, 7, 17, 18, 125, 126, 127], []), ([1, 5, 7, 17, 18, 19, 20, 125, 126, 127], []), ([1, 5, 7, 125, 126, 127, 172], []), ([4], []), ([1, 5, 7, 125, 126, 127], []), ([21], []), ([21, 22, 23], []), ([21, 22, 23, 24, 25], []), ([21, 22, 23, 24, 25, 26, 27], []), ([22, 23, 24, 25, 26, 27, 28, 29], []), ([22, 26, 220], []), ([4], []), ([4], [])] = some (x_lFnPlaceBells, r_lFnPlaceBells) := by kernel_rfl
def us_lFnPlaceBells := aI @u7_0 (aI @u7_1 (aI @u7_2 (aI @u7_3 (aI @u7_4 (aI @u7_5 (aI @u7_6 (aI @u7_7 (aI @u7_8 (aI @u7_9 (aI @u7_10 (aI @u7_11 (aI @u7_12 (aI @u7_13 (aI @u7_14 (aI @u7_15 (aI @u7_16 (aI @u7_17 (aI @u7_18 (aI @u7_19 (aI @u7_20 (aI @u7_21 (aI @u7_22 (aI @u7_23 (aI @u7_24 (aI @u7_25 (aI @u7_26 (aI @u7_27 (aI @u7_28 (aI @u7_29 @u7_30)))))))))))))))))))))))))))))
end

theorem ord_ofp (nm : List UInt8) (st : Int) (cs : List (List UInt8)) : ∃ k : Nat, k ≤ 840 ∧ (IsMethod nm st cs → IsOrd (hdL st.toNat cs) k) := by
  by_cases hm : IsMethod nm st cs
  · obtain ⟨k, hk⟩ := ord_exists (hdL_row (n := st.toNat) (by have := hm.2.1; omega) cs).1
    exact ⟨k, hk.2.1, fun _ => hk⟩
  · exact ⟨0, by decide, fun h => absurd h hm⟩
theorem do_pt (l : List Int) : ∀ a ∈ doL l, a ∈ ptL l := by
  intro a ha
  unfold doL at ha
  unfold ptL
  by_cases hP : IsPth l
  · rw [if_pos hP] at ha ⊢
    unfold idxF at *
    obtain ⟨i, hi, rfl⟩ := List.mem_map.1 ha
    rw [List.mem_filter, List.mem_range] at hi
    have hd := of_decide_eq_true hi.2
    refine List.mem_map.2 ⟨i, ?_, rfl⟩
    rw [List.mem_filter, List.mem_range]
    exact ⟨by omega, decide_eq_true ⟨hd.1, by have := hd.2.1; have := hd.2.2.1; omega, by have := hd.2.1; omega⟩⟩
  · rw [if_neg hP] at ha
    simp at ha
set_option maxHeartbeats 4000000 in
theorem lFnPlaceBells_ok (v u : Value) (code more : List UInt8) (hcl : code.length ≤ 9223372036854775807) (hml : more.length ≤ 9223372036854775807) (w : World) (h : Sq fU 1 w v code) (h' : Sq fU 1 w u more) : Fn 7 [v, u] w (fun r _ => r = .bool true) := by
  (refine callsV_of mix Try.func7 c_lFnPlaceBells ?_; simp only [↓vsd, vsn, gW, qd, qv, ev, pick, argE, zipE, ne_eq, eq_self, forall_const, implies_true, if_true, if_false, reduceIte, reduceCtorEq, Nat.reduceEqDiff, Nat.reduceAdd, Nat.reduceLT, ↓us_lFnPlaceBells, r_lFnPlaceBells])
  refine m_call (lbig_ok v u code more hcl hml _ h h') ?_
  rintro _ w0 hx0 rfl
  simp only [↓vsd, vsn, gW, qd, qv, ev, pick, argE, zipE, ne_eq, eq_self, forall_const, implies_true, if_true, if_false, reduceIte, reduceCtorEq, Nat.reduceEqDiff, Nat.reduceAdd, Nat.reduceLT, ↓us_lFnPlaceBells, r_lFnPlaceBells]
  refine ⟨fun _ => hx0, fun hsm => ?_⟩
  have hlen : code.length ≤ 1048576 ∧ more.length ≤ 1048576 := by omega
  refine m_call (sDrawPlaceBells_ok v code hlen.1 _ (h.ext hx0)) ?_
  rintro _ w1 hx1 ⟨nm, st, x, cs, b, rfl, ho1, hnm, hst, hcs, hc8⟩
  simp only [↓vsd, vsn, gW, qd, qv, ev, pick, argE, zipE, ne_eq, eq_self, forall_const, implies_true, if_true, if_false, reduceIte, reduceCtorEq, Nat.reduceEqDiff, Nat.reduceAdd, Nat.reduceLT, ↓us_lFnPlaceBells, r_lFnPlaceBells]
  refine m_al ?_
  rintro bm w2 hbm hblk2 hx2 hs2
  simp only [↓vsd, vsn, gW, qd, qv, ev, pick, argE, zipE, ne_eq, eq_self, forall_const, implies_true, if_true, if_false, reduceIte, reduceCtorEq, Nat.reduceEqDiff, Nat.reduceAdd, Nat.reduceLT, ↓us_lFnPlaceBells, r_lFnPlaceBells]
  refine m_st hblk2 rfl (Nat.le_refl 3) (fM_one nm st x ho1.sq.one') ?_
  rintro w3 hblk3 hu3
  have hmL : Blk w3 bm (fM nm st x) 41 := hblk3
  have hoL := (ho1.ext hx2).upd hu3 (ho1.away (by omega))
  have hxL : Ext w w3 := hu3.below ((hx0.trans hx1).trans hx2) (by have := hx0.size; have := hx1.size; omega)
  have hnm' : nm.length ≤ 1048576 := by omega
  have hc8' : ∀ c ∈ cs, c.length ≤ 1048576 := fun c hc => by have := hc8 c hc; omega
  have hcs' : cs.length ≤ 1000000000 := by omega
  clear hblk2 hblk3 hx1 hx2 hu3 ho1 hbm hs2
  obtain ⟨k, hk840, hk⟩ := ord_ofp nm st cs
  simp only [↓vsd, vsn, gW, qd, qv, ev, pick, argE, zipE, ne_eq, eq_self, forall_const, implies_true, if_true, if_false, reduceIte, reduceCtorEq, Nat.reduceEqDiff, Nat.reduceAdd, Nat.reduceLT, ↓us_lFnPlaceBells, r_lFnPlaceBells, hmL.facts, fMg]
  refine m_call (iPlaceBells_ok nm st x cs b hnm' hc8' hcs' _ hoL.sq) ?_
  rintro _ w4 hxn ⟨y1, rfl, hy1⟩
  have hmL := hmL.ext hxn
  have hoL := hoL.ext hxn
  have hxL := hxL.trans hxn
  simp only [↓vsd, vsn, gW, qd, qv, ev, pick, argE, zipE, ne_eq, eq_self, forall_const, implies_true, if_true, if_false, reduceIte, reduceCtorEq, Nat.reduceEqDiff, Nat.reduceAdd, Nat.reduceLT, ↓us_lFnPlaceBells, r_lFnPlaceBells, hmL.facts, fMg]
  refine m_call (sPlaceBells_ok nm st x cs b hnm' hc8' hcs' _ hoL.sq) ?_
  rintro _ w5 hxn ⟨y2, rfl, hy2⟩
  have hy1 := hy1.ext hxn
  have hmL := hmL.ext hxn
  have hoL := hoL.ext hxn
  have hxL := hxL.trans hxn
  simp only [↓vsd, vsn, gW, qd, qv, ev, pick, argE, zipE, ne_eq, eq_self, forall_const, implies_true, if_true, if_false, reduceIte, reduceCtorEq, Nat.reduceEqDiff, Nat.reduceAdd, Nat.reduceLT, ↓us_lFnPlaceBells, r_lFnPlaceBells, hmL.facts, fMg]
  refine m_call (iCoursePath_ok nm st x cs b hnm' hc8' hcs' _ hoL.sq) ?_
  rintro _ w6 hxn ⟨z1, rfl, hz1⟩
  have hy1 := hy1.ext hxn
  have hy2 := hy2.ext hxn
  have hmL := hmL.ext hxn
  have hoL := hoL.ext hxn
  have hxL := hxL.trans hxn
  simp only [↓vsd, vsn, gW, qd, qv, ev, pick, argE, zipE, ne_eq, eq_self, forall_const, implies_true, if_true, if_false, reduceIte, reduceCtorEq, Nat.reduceEqDiff, Nat.reduceAdd, Nat.reduceLT, ↓us_lFnPlaceBells, r_lFnPlaceBells, hmL.facts, fMg]
  refine m_call (sCoursePath_ok nm st x cs b hnm' hc8' hcs' _ hoL.sq) ?_
  rintro _ w7 hxn ⟨z2, rfl, hz2⟩
  have hy1 := hy1.ext hxn
  have hy2 := hy2.ext hxn
  have hz1 := hz1.ext hxn
  have hmL := hmL.ext hxn
  have hoL := hoL.ext hxn
  have hxL := hxL.trans hxn
  simp only [↓vsd, vsn, gW, qd, qv, ev, pick, argE, zipE, ne_eq, eq_self, forall_const, implies_true, if_true, if_false, reduceIte, reduceCtorEq, Nat.reduceEqDiff, Nat.reduceAdd, Nat.reduceLT, ↓us_lFnPlaceBells, r_lFnPlaceBells]
  have hly : (pbR nm st cs b).length ≤ 1000 := by
    unfold pbR; split
    · rename_i hp
      have hH := under_row (n := st.toNat) (by have := hp.1.2.1; omega) cs
      have := pbL_len hH.1 (x := b.toNat - 1) (by rw [hH.2]; have := hp.2; omega)
      omega
    · simp
  have hlz : (cpR nm st cs b).length ≤ 1000 := by
    unfold cpR; split
    · rename_i hp
      have hH := under_row (n := st.toNat) (by have := hp.1.2.1; omega) cs
      have hpb := pbL_len hH.1 (x := b.toNat - 1) (by rw [hH.2]; have := hp.2; omega)
      have := Nat.mul_le_mul hpb.2 hp.1.2.2.1.2
      rw [cpL_len]; omega
    · simp
  refine m_call (lsameInts_ok y1 y2 _ _ _ hy1.sq hy2.sq (by omega)) ?_
  rintro _ w8 hxn rfl
  have hxn : Ext w7 w8 := by first | exact hxn | exact ud hxn | exact ud (ud hxn)
  have hy1 := hy1.ext hxn
  have hz1 := hz1.ext hxn
  have hz2 := hz2.ext hxn
  have hmL := hmL.ext hxn
  have hoL := hoL.ext hxn
  have hxL := hxL.trans hxn
  simp only [↓vsd, vsn, gW, qd, qv, ev, pick, argE, zipE, ne_eq, eq_self, forall_const, implies_true, if_true, if_false, reduceIte, reduceCtorEq, Nat.reduceEqDiff, Nat.reduceAdd, Nat.reduceLT, ↓us_lFnPlaceBells, r_lFnPlaceBells]
  refine m_call (lsameInts_ok z1 z2 _ _ _ hz1.sq hz2.sq (by omega)) ?_
  rintro _ w9 hxn rfl
  have hxn : Ext w8 w9 := by first | exact hxn | exact ud hxn | exact ud (ud hxn)
  have hy1 := hy1.ext hxn
  have hz1 := hz1.ext hxn
  have hmL := hmL.ext hxn
  have hoL := hoL.ext hxn
  have hxL := hxL.trans hxn
  by_cases hP : pathOk nm st cs b
  · have hPd := decide_eq_true hP
    obtain ⟨n, rfl⟩ : ∃ n : Nat, st = n := ⟨st.toNat, by omega⟩
    obtain ⟨xb, rfl⟩ : ∃ xb : Nat, b = ((xb + 1 : Nat) : Int) := ⟨b.toNat - 1, by have := hP.2; omega⟩
    have hm := hP.1
    have h38 : 3 ≤ n ∧ n ≤ 8 := by have := hm.2.1; omega
    have hcl1 := hm.2.2.1
    have hxb : xb < n := by have := hP.2; omega
    have hH := under_row h38 cs
    have hOk := hk hm
    rw [Int.toNat_natCast] at hOk
    have hxl : xb < (underL (roundsL n) cs).length := by rw [hH.2]; exact hxb
    have hdv := per_dvd hH.1 hxl hOk
    have ht := turnL_row hH.1
    have hxt : xb < (turnL (underL (roundsL n) cs)).length := by rw [turnL_len]; exact hxl
    have hper := per_is ht hxt
    have hpe : pbR nm n cs ((xb + 1 : Nat) : Int) = pbK (underL (roundsL n) cs) xb (per (turnL (underL (roundsL n) cs)) xb) := by rw [pbR, if_pos hP, Int.toNat_natCast, Int.toNat_natCast, Nat.add_sub_cancel, pbK_all]
    have hce : (cpR nm n cs ((xb + 1 : Nat) : Int)).length = per (turnL (underL (roundsL n) cs)) xb * cs.length := by rw [cpR, if_pos hP, Int.toNat_natCast, Int.toNat_natCast, Nat.add_sub_cancel, cpL_len, ← pbK_all, pbK_len]
    rw [hpe] at hy1
    generalize hpp : per (turnL (underL (roundsL n) cs)) xb = pr at *
    have hlK := pbK_len (underL (roundsL n) cs) xb pr
    have hp8 := hper.2.1
    have hp1 := hper.1
    simp only [↓vsd, vsn, gW, qd, qv, ev, pick, argE, zipE, ne_eq, eq_self, forall_const, implies_true, if_true, if_false, reduceIte, reduceCtorEq, Nat.reduceEqDiff, Nat.reduceAdd, Nat.reduceLT, ↓us_lFnPlaceBells, r_lFnPlaceBells, hPd, hmL.facts, fMg]
    refine m_call (iLeadsIn_ok nm n x cs k hnm' hc8' hcs' hk _ hoL.sq) ?_
    rintro _ w10 hxn rfl
    have hy1 := hy1.ext hxn
    have hz1 := hz1.ext hxn
    have hmL := hmL.ext hxn
    have hoL := hoL.ext hxn
    have hxL := hxL.trans hxn
    have hli : liV nm n cs k = .tuple ⟨[.int .i64 (k : Int), .bool true]⟩ := by rw [liV, if_pos hm, decide_eq_true hm]
    rw [hli]
    have hK0 : (pbK (underL (roundsL n) cs) xb pr).getD 0 0 = ((xb + 1 : Nat) : Int) := by
      rw [pbK, getD_map _ 0 _ _ _ (by simp; omega)]
      simp [List.getD_eq_getElem?_getD, show 0 < pr by omega, itb]
    have hl0 : 0 < (pbK (underL (roundsL n) cs) xb pr).length := by omega
    have hmodI : (k : Int).tmod (pr : Int) = 0 := by rw [← Int.ofNat_tmod, hdv]; rfl
    have hmulI : ((per (turnL (underL (roundsL n) cs)) xb * cs.length : Nat) : Int) = (pr : Int) * cs.length := by rw [hpp, Int.natCast_mul]
    have hprI : ¬ (pr : Int) = 0 := by omega
    have hmulP : ((pr * cs.length : Nat) : Int) = (pr : Int) * cs.length := Int.natCast_mul _ _
    simp only [↓vsd, vsn, gW, qd, qv, ev, pick, argE, zipE, ne_eq, eq_self, forall_const, implies_true, if_true, if_false, reduceIte, reduceCtorEq, Nat.reduceEqDiff, Nat.reduceAdd, Nat.reduceLT, ↓us_lFnPlaceBells, r_lFnPlaceBells, hy1.sq.facts, hlK, hprI, hy1.sq.at0 0 hl0, hK0, hmodI, hz1.sq.facts, hce, hmL.facts, fMg, hoL.sq.facts, hmulP]
    have hmb : pr * cs.length ≤ 8 * 40 := Nat.mul_le_mul hp8 hcl1.2
    refine ⟨by omega, by rw [← hmulP]; exact inR_i64 (by omega), ?_⟩
    have hKg : ∀ i, i < pr → (pbK (underL (roundsL n) cs) xb pr).getD i 0 = ((itb (turnL (underL (roundsL n) cs)) i xb + 1 : Nat) : Int) := fun i hi => by
      rw [pbK, getD_map _ 0 _ _ _ (by simp; exact hi)]
      simp [List.getD_eq_getElem?_getD, hi]
    refine m_upto pr (fun i vs w' => vs = [.int .i64 i] ∧ Ext w10 w') ⟨rfl, Ext.refl _⟩ ?_
    rintro i vs w11 hi ⟨rfl, hx11⟩
    by_cases hlt : i < pr
    · have hltI : (i : Int) < pr := by omega
      have hltJ : ¬ (pr : Int) ≤ i := by omega
      have hqy := hy1.sq.ext hx11
      have hm11 := hmL.ext hx11
      have hqx := hoL.sq.ext hx11
      have hil := itb_lt ht hxt i
      rw [turnL_len, hH.2] at hil
      have hg := hKg i hlt
      have hil1 : i < (pbK (underL (roundsL n) cs) xb pr).length := by omega
      have hml : (i + 1) % pr < pr := Nat.mod_lt _ (by omega)
      have hil2 : (i + 1) % pr < (pbK (underL (roundsL n) cs) xb pr).length := by omega
      have hg2 := hKg _ hml
      rw [← hper.mod (i + 1)] at hg2
      have hmd : ((i : Int) + 1).tmod (pr : Int) = (((i + 1) % pr : Nat) : Int) := (Int.ofNat_tmod (i + 1) pr).symm
      have hB : pathOk nm n cs ((itb (turnL (underL (roundsL n) cs)) i xb + 1 : Nat) : Int) := ⟨hm, by omega, by omega⟩
      have hBd := decide_eq_true hB
      simp only [↓vsd, vsn, gW, qd, qv, ev, pick, argE, zipE, ne_eq, eq_self, forall_const, implies_true, if_true, if_false, reduceIte, reduceCtorEq, Nat.reduceEqDiff, Nat.reduceAdd, Nat.reduceLT, ↓us_lFnPlaceBells, r_lFnPlaceBells, hltI, hltJ, hqy.facts, hlK, hqy.at1 0 hil1, hg, hm11.facts, fMg]
      refine ⟨by omega, m_call (iPathOf_ok nm n x cs _ hnm' hc8' hcs' _ (by first | exact hoL.sq.ext hx11 | exact hoL.sq.ext (dr hx11))) ?_⟩
      rintro _ w12 hxn ⟨yp, rfl, hop⟩
      have hxn : Ext w11 w12 := by first | exact hxn | exact ud hxn | exact ud (ud hxn)
      rw [pathR, if_pos hB, Int.toNat_natCast] at hop
      have hpl : (pathP (rowsU (roundsL n) cs (cs.length + 1)) ((itb (turnL (underL (roundsL n) cs)) i xb + 1 : Nat) : Int)).length = cs.length + 1 := by rw [pathP_len, rowsU_len]
      have hrl := rowsU_len (roundsL n) cs (cs.length + 1)
      have hf0 : (pathP (rowsU (roundsL n) cs (cs.length + 1)) ((itb (turnL (underL (roundsL n) cs)) i xb + 1 : Nat) : Int)).getD 0 0 = ((itb (turnL (underL (roundsL n) cs)) i xb + 1 : Nat) : Int) := by
        rw [pathP, getD_map _ [] _ _ _ (by omega), rowsU_get _ _ _ _ (by omega)]
        exact congrArg _ (plc_rounds h38 hil)
      have hfL : (pathP (rowsU (roundsL n) cs (cs.length + 1)) ((itb (turnL (underL (roundsL n) cs)) i xb + 1 : Nat) : Int)).getD cs.length 0 = ((itb (turnL (underL (roundsL n) cs)) (i + 1) xb + 1 : Nat) : Int) := by
        rw [pathP, getD_map _ [] _ _ _ (by omega), rowsU_get _ _ _ _ (by omega), List.take_length]
        exact congrArg _ (plc_turn hH.1 (by rw [hH.2]; exact hil))
      have hc0 : 0 < (pathP (rowsU (roundsL n) cs (cs.length + 1)) ((itb (turnL (underL (roundsL n) cs)) i xb + 1 : Nat) : Int)).length := by omega
      have hcL : cs.length < (pathP (rowsU (roundsL n) cs (cs.length + 1)) ((itb (turnL (underL (roundsL n) cs)) i xb + 1 : Nat) : Int)).length := by omega
      have hqy := hqy.ext hxn
      have hm12 := hm11.ext hxn
      have hqx := hqx.ext hxn
      have e1 : ((cs.length + 1 : Nat) : Int) - 1 = (cs.length : Int) := by omega
      have e3 : (cs.length : Int) + 1 = ((cs.length + 1 : Nat) : Int) := by omega
      simp only [↓vsd, vsn, gW, qd, qv, ev, pick, argE, zipE, ne_eq, eq_self, forall_const, implies_true, if_true, if_false, reduceIte, reduceCtorEq, Nat.reduceEqDiff, Nat.reduceAdd, Nat.reduceLT, ↓us_lFnPlaceBells, r_lFnPlaceBells, hBd, hop.sq.facts, hpl, hop.sq.at0 0 hc0, hop.sq.at1 0 hcL, hf0, hfL, hm12.facts, fMg, hqx.facts, hqy.facts, hlK, hmd, hqy.at1 0 hil2, hg2, e1, e3]
      exact ⟨inR_i64 (by omega), ⟨by omega, by omega⟩, inR_i64 (by omega), ⟨by omega, by omega⟩, inR_i64 (by omega), hprI, ⟨Int.natCast_nonneg _, Int.ofNat_lt.2 hml⟩, inR_i64 (by omega), UpTo.next hlt ⟨rfl, by first | exact hx11.trans hxn | exact dr (hx11.trans hxn)⟩⟩
    · obtain rfl : i = pr := by omega
      have hltI : ¬ (i : Int) < i := by omega
      simp only [↓vsd, vsn, gW, qd, qv, ev, pick, argE, zipE, ne_eq, eq_self, forall_const, implies_true, if_true, if_false, reduceIte, reduceCtorEq, Nat.reduceEqDiff, Nat.reduceAdd, Nat.reduceLT, ↓us_lFnPlaceBells, r_lFnPlaceBells, hltI]
      have hxT := hxL.trans hx11
      refine m_call (sDrawDodgesIn_ok u more hlen.2 _ (h'.ext hxT)) ?_
      rintro q t1 hx1 ⟨ql, hoq, hql, hqb⟩
      have hxT1 : Ext w t1 := hxT.trans hx1
      simp only [↓vsd, vsn, gW, qd, qv, ev, pick, argE, zipE, ne_eq, eq_self, forall_const, implies_true, if_true, if_false, reduceIte, reduceCtorEq, Nat.reduceEqDiff, Nat.reduceAdd, Nat.reduceLT, ↓us_lFnPlaceBells, r_lFnPlaceBells]
      refine m_call (iDodgesIn_ok q ql hqb (by omega) _ hoq.sq) ?_
      rintro _ t2 hx2 ⟨d1, rfl, hd1⟩
      have hoq := hoq.ext hx2
      simp only [↓vsd, vsn, gW, qd, qv, ev, pick, argE, zipE, ne_eq, eq_self, forall_const, implies_true, if_true, if_false, reduceIte, reduceCtorEq, Nat.reduceEqDiff, Nat.reduceAdd, Nat.reduceLT, ↓us_lFnPlaceBells, r_lFnPlaceBells]
      refine m_call (sDodgesIn_ok q ql hqb (by omega) _ hoq.sq) ?_
      rintro _ t3 hx3 ⟨d2, rfl, hd2⟩
      have hoq := hoq.ext hx3
      have hd1 := hd1.ext hx3
      simp only [↓vsd, vsn, gW, qd, qv, ev, pick, argE, zipE, ne_eq, eq_self, forall_const, implies_true, if_true, if_false, reduceIte, reduceCtorEq, Nat.reduceEqDiff, Nat.reduceAdd, Nat.reduceLT, ↓us_lFnPlaceBells, r_lFnPlaceBells]
      refine m_call (iPointsIn_ok q ql hqb (by omega) _ hoq.sq) ?_
      rintro _ t4 hx4 ⟨p1, rfl, hp1⟩
      have hoq := hoq.ext hx4
      have hd1 := hd1.ext hx4
      have hd2 := hd2.ext hx4
      simp only [↓vsd, vsn, gW, qd, qv, ev, pick, argE, zipE, ne_eq, eq_self, forall_const, implies_true, if_true, if_false, reduceIte, reduceCtorEq, Nat.reduceEqDiff, Nat.reduceAdd, Nat.reduceLT, ↓us_lFnPlaceBells, r_lFnPlaceBells]
      refine m_call (sPointsIn_ok q ql hqb (by omega) _ hoq.sq) ?_
      rintro _ t5 hx5 ⟨p2, rfl, hp2⟩
      have hd1 := hd1.ext hx5
      have hd2 := hd2.ext hx5
      have hp1 := hp1.ext hx5
      have hxT5 := (((hxT1.trans hx2).trans hx3).trans hx4).trans hx5
      have hdl : (doL ql).length ≤ 2000 := by
        unfold doL; split
        · have := idxF_len (doP ql) (ql.length - 3 + 1); omega
        · simp
      have hpl : (ptL ql).length ≤ 2000 := by
        unfold ptL; split
        · have := idxF_len (ptP ql) (ql.length - 2 + 1); omega
        · simp
      simp only [↓vsd, vsn, gW, qd, qv, ev, pick, argE, zipE, ne_eq, eq_self, forall_const, implies_true, if_true, if_false, reduceIte, reduceCtorEq, Nat.reduceEqDiff, Nat.reduceAdd, Nat.reduceLT, ↓us_lFnPlaceBells, r_lFnPlaceBells]
      refine m_call (lsameInts_ok d1 d2 _ _ _ hd1.sq hd2.sq (by omega)) ?_
      rintro _ t6 hx6 rfl
      have hx6 : Ext t5 t6 := by first | exact hx6 | exact ud hx6 | exact ud (ud hx6)
      simp only [↓vsd, vsn, gW, qd, qv, ev, pick, argE, zipE, ne_eq, eq_self, forall_const, implies_true, if_true, if_false, reduceIte, reduceCtorEq, Nat.reduceEqDiff, Nat.reduceAdd, Nat.reduceLT, ↓us_lFnPlaceBells, r_lFnPlaceBells]
      refine m_call (lsameInts_ok p1 p2 _ _ _ (hp1.ext hx6).sq (hp2.ext hx6).sq (by omega)) ?_
      rintro _ t7 hx7 rfl
      have hx7 : Ext t6 t7 := by first | exact hx7 | exact ud hx7 | exact ud (ud hx7)
      simp only [↓vsd, vsn, gW, qd, qv, ev, pick, argE, zipE, ne_eq, eq_self, forall_const, implies_true, if_true, if_false, reduceIte, reduceCtorEq, Nat.reduceEqDiff, Nat.reduceAdd, Nat.reduceLT, ↓us_lFnPlaceBells, r_lFnPlaceBells]
      refine m_call (lwithin_ok d1 p1 _ _ (by omega) (by omega) _ ((hd1.ext hx6).ext hx7).sq ((hp1.ext hx6).ext hx7).sq) ?_
      rintro _ t8 hx8 rfl
      have hx8 : Ext t7 t8 := by first | exact hx8 | exact ud hx8 | exact ud (ud hx8)
      have hin := decide_eq_true (do_pt ql)
      simp only [↓vsd, vsn, gW, qd, qv, ev, pick, argE, zipE, ne_eq, eq_self, forall_const, implies_true, if_true, if_false, reduceIte, reduceCtorEq, Nat.reduceEqDiff, Nat.reduceAdd, Nat.reduceLT, ↓us_lFnPlaceBells, r_lFnPlaceBells, hin]
      exact ((hxT5.trans hx6).trans hx7).trans hx8
  · have hPd := decide_eq_false hP
    simp only [↓vsd, vsn, gW, qd, qv, ev, pick, argE, zipE, ne_eq, eq_self, forall_const, implies_true, if_true, if_false, reduceIte, reduceCtorEq, Nat.reduceEqDiff, Nat.reduceAdd, Nat.reduceLT, ↓us_lFnPlaceBells, r_lFnPlaceBells, hPd]
    have hxT := hxL
    refine m_call (sDrawDodgesIn_ok u more hlen.2 _ (h'.ext hxT)) ?_
    rintro q t1 hx1 ⟨ql, hoq, hql, hqb⟩
    have hxT1 : Ext w t1 := hxT.trans hx1
    simp only [↓vsd, vsn, gW, qd, qv, ev, pick, argE, zipE, ne_eq, eq_self, forall_const, implies_true, if_true, if_false, reduceIte, reduceCtorEq, Nat.reduceEqDiff, Nat.reduceAdd, Nat.reduceLT, ↓us_lFnPlaceBells, r_lFnPlaceBells]
    refine m_call (iDodgesIn_ok q ql hqb (by omega) _ hoq.sq) ?_
    rintro _ t2 hx2 ⟨d1, rfl, hd1⟩
    have hoq := hoq.ext hx2
    simp only [↓vsd, vsn, gW, qd, qv, ev, pick, argE, zipE, ne_eq, eq_self, forall_const, implies_true, if_true, if_false, reduceIte, reduceCtorEq, Nat.reduceEqDiff, Nat.reduceAdd, Nat.reduceLT, ↓us_lFnPlaceBells, r_lFnPlaceBells]
    refine m_call (sDodgesIn_ok q ql hqb (by omega) _ hoq.sq) ?_
    rintro _ t3 hx3 ⟨d2, rfl, hd2⟩
    have hoq := hoq.ext hx3
    have hd1 := hd1.ext hx3
    simp only [↓vsd, vsn, gW, qd, qv, ev, pick, argE, zipE, ne_eq, eq_self, forall_const, implies_true, if_true, if_false, reduceIte, reduceCtorEq, Nat.reduceEqDiff, Nat.reduceAdd, Nat.reduceLT, ↓us_lFnPlaceBells, r_lFnPlaceBells]
    refine m_call (iPointsIn_ok q ql hqb (by omega) _ hoq.sq) ?_
    rintro _ t4 hx4 ⟨p1, rfl, hp1⟩
    have hoq := hoq.ext hx4
    have hd1 := hd1.ext hx4
    have hd2 := hd2.ext hx4
    simp only [↓vsd, vsn, gW, qd, qv, ev, pick, argE, zipE, ne_eq, eq_self, forall_const, implies_true, if_true, if_false, reduceIte, reduceCtorEq, Nat.reduceEqDiff, Nat.reduceAdd, Nat.reduceLT, ↓us_lFnPlaceBells, r_lFnPlaceBells]
    refine m_call (sPointsIn_ok q ql hqb (by omega) _ hoq.sq) ?_
    rintro _ t5 hx5 ⟨p2, rfl, hp2⟩
    have hd1 := hd1.ext hx5
    have hd2 := hd2.ext hx5
    have hp1 := hp1.ext hx5
    have hxT5 := (((hxT1.trans hx2).trans hx3).trans hx4).trans hx5
    have hdl : (doL ql).length ≤ 2000 := by
      unfold doL; split
      · have := idxF_len (doP ql) (ql.length - 3 + 1); omega
      · simp
    have hpl : (ptL ql).length ≤ 2000 := by
      unfold ptL; split
      · have := idxF_len (ptP ql) (ql.length - 2 + 1); omega
      · simp
    simp only [↓vsd, vsn, gW, qd, qv, ev, pick, argE, zipE, ne_eq, eq_self, forall_const, implies_true, if_true, if_false, reduceIte, reduceCtorEq, Nat.reduceEqDiff, Nat.reduceAdd, Nat.reduceLT, ↓us_lFnPlaceBells, r_lFnPlaceBells]
    refine m_call (lsameInts_ok d1 d2 _ _ _ hd1.sq hd2.sq (by omega)) ?_
    rintro _ t6 hx6 rfl
    have hx6 : Ext t5 t6 := by first | exact hx6 | exact ud hx6 | exact ud (ud hx6)
    simp only [↓vsd, vsn, gW, qd, qv, ev, pick, argE, zipE, ne_eq, eq_self, forall_const, implies_true, if_true, if_false, reduceIte, reduceCtorEq, Nat.reduceEqDiff, Nat.reduceAdd, Nat.reduceLT, ↓us_lFnPlaceBells, r_lFnPlaceBells]
    refine m_call (lsameInts_ok p1 p2 _ _ _ (hp1.ext hx6).sq (hp2.ext hx6).sq (by omega)) ?_
    rintro _ t7 hx7 rfl
    have hx7 : Ext t6 t7 := by first | exact hx7 | exact ud hx7 | exact ud (ud hx7)
    simp only [↓vsd, vsn, gW, qd, qv, ev, pick, argE, zipE, ne_eq, eq_self, forall_const, implies_true, if_true, if_false, reduceIte, reduceCtorEq, Nat.reduceEqDiff, Nat.reduceAdd, Nat.reduceLT, ↓us_lFnPlaceBells, r_lFnPlaceBells]
    refine m_call (lwithin_ok d1 p1 _ _ (by omega) (by omega) _ ((hd1.ext hx6).ext hx7).sq ((hp1.ext hx6).ext hx7).sq) ?_
    rintro _ t8 hx8 rfl
    have hx8 : Ext t7 t8 := by first | exact hx8 | exact ud hx8 | exact ud (ud hx8)
    have hin := decide_eq_true (do_pt ql)
    simp only [↓vsd, vsn, gW, qd, qv, ev, pick, argE, zipE, ne_eq, eq_self, forall_const, implies_true, if_true, if_false, reduceIte, reduceCtorEq, Nat.reduceEqDiff, Nat.reduceAdd, Nat.reduceLT, ↓us_lFnPlaceBells, r_lFnPlaceBells, hin]
    exact ((hxT5.trans hx6).trans hx7).trans hx8
end Go.Proofs.Ytpnopboffalfnaa
