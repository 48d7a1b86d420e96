/-
  The call of the law FnLeads.
  Conditions: none.
-/
import Derived.Test.YtpnopboffalfnaaD35
import Derived.Test.YtpnopboffalfnaaD3
import Derived.Test.YtpnopboffalfnaaA48
import Derived.Test.YtpnopboffalfnaaA24
import Derived.Test.YtpnopboffalfnaaA36
set_option linter.unusedSimpArgs false
set_option linter.unusedVariables false
set_option linter.defProp false
namespace Go.Proofs.Ytpnopboffalfnaa
open Go Go.RowKit
section
variable (P : Program) (k : KT) (e : Env) (w : World)
abbrev b114_1 : X := (.seq (.reg [2] (.c (.q 3 [] (.lda 3 (.t 1))) (.c (.e (some 4) [] (.call false 166 [(.t 3)])) (.c (.q 2 [] (.mv (.t 4))) .nil)))) .ret)
def t114_1 := b114_1
theorem u114_1 : vcK P t114_1 k e w = vcK P b114_1 k e w := rfl
abbrev b114_0 : X := (.seq (.reg [1] (.c (.e (some 1) [] (.box 41 (.t 0))) (.c (.q 2 [] (.mv (.c (.bool false)))) .nil))) t114_1)
def x_sGoodMethod := b114_0
theorem u114_0 : vcK P x_sGoodMethod k e w = vcK P b114_0 k e w := rfl
def r_sGoodMethod : List XO := [(.mv (.t 2))]
theorem c_sGoodMethod : convF Try.prog [169, 170, 207, 208, 210, 227, 232, 233, 255, 259, 268, 269, 270, 280, 281, 296, 299, 306, 307, 309] Try.f114 [([1], []), ([2], [])] = some (x_sGoodMethod, r_sGoodMethod) := by kernel_rfl
def us_sGoodMethod := aI @u114_0 @u114_1
abbrev b11_1 : X := (.cond (.t 39) (.seq (.reg [4] (.c (.q 4 [] (.mv (.c (.bool true)))) .nil)) .ret) .skip)
def t11_1 := b11_1
theorem u11_1 : vcK P t11_1 k e w = vcK P b11_1 k e w := rfl
abbrev b11_2 : X := (.cond (.t 72) (.seq (.reg [4] (.c (.q 4 [] (.mv (.c (.bool false)))) .nil)) .ret) .skip)
def t11_2 := b11_2
theorem u11_2 : vcK P t11_2 k e w = vcK P b11_2 k e w := rfl
abbrev b11_3 : X := (.cond (.t 130) (.seq (.reg [4] (.c (.q 4 [] (.mv (.c (.bool false)))) .nil)) .ret) .skip)
def t11_3 := b11_3
theorem u11_3 : vcK P t11_3 k e w = vcK P b11_3 k e w := rfl
abbrev b11_4 : X := (.cond (.t 144) (.reg [1, 7, 13, 21, 22, 23, 132, 133, 134] (.c (.q 145 [] (.mv (.t 7))) (.c (.q 146 [] (.mv (.t 21))) (.c (.q 147 [] (.bin .add (.t 146) (.c (.int .i64 1)))) (.c (.q 148 [] (.ia 1 (.t 145) (.t 147))) (.c (.q 149 [] (.ld (.t 148))) (.c (.q 23 [] (.mv (.t 149))) .nil))))))) .skip)
def t11_4 := b11_4
theorem u11_4 : vcK P t11_4 k e w = vcK P b11_4 k e w := rfl
abbrev b11_5 : X := (.cond (.t 165) (.seq (.reg [4] (.c (.q 4 [] (.mv (.c (.bool false)))) .nil)) .ret) .skip)
def t11_5 := b11_5
theorem u11_5 : vcK P t11_5 k e w = vcK P b11_5 k e w := rfl
abbrev b11_6 : X := (.seq (.reg [1, 7, 13, 132, 133, 134, 165] (.c (.q 159 [] (.mv (.t 25))) (.c (.q 160 [] (.not (.t 159))) (.c (.q 161 [] (.mv (.t 160))) (.c (.q 162 [(161, false)] (.mv (.t 24))) (.c (.q 163 [(161, false)] (.mv (.t 23))) (.c (.q 164 [(161, false)] (.bin .neq (.t 162) (.t 163))) (.c (.q 165 [] (.pick (.t 161) (.c (.bool true)) (.t 164))) .nil)))))))) t11_5)
def t11_6 := b11_6
theorem u11_6 : vcK P t11_6 k e w = vcK P b11_6 k e w := rfl
abbrev b11_7 : X := (.seq (.reg [1, 7, 13, 23, 24, 25, 132, 133, 134] (.c (.q 151 [] (.mv (.t 7))) (.c (.q 152 [] (.mv (.t 21))) (.c (.q 153 [] (.ia 1 (.t 151) (.t 152))) (.c (.q 154 [] (.ld (.t 153))) (.c (.q 155 [] (.mv (.t 22))) (.c (.e (some 156) [] (.call false 115 [(.t 154), (.t 155)])) (.c (.q 150 [] (.mv (.t 156))) (.c (.q 157 [] (.ext 0 (.t 150))) (.c (.q 158 [] (.ext 1 (.t 150))) (.c (.q 24 [] (.mv (.t 157))) (.c (.q 25 [] (.mv (.t 158))) .nil)))))))))))) t11_6)
def t11_7 := b11_7
theorem u11_7 : vcK P t11_7 k e w = vcK P b11_7 k e w := rfl
abbrev b11_8 : X := (.seq (.seq (.reg [1, 7, 13, 21, 22, 23, 132, 133, 134, 144] (.c (.q 140 [] (.mv (.t 21))) (.c (.q 141 [] (.bin .add (.t 140) (.c (.int .i64 1)))) (.c (.q 142 [] (.mv (.t 7))) (.c (.q 143 [] (.lens (.t 142))) (.c (.q 144 [] (.bin .lss (.t 141) (.t 143))) .nil)))))) t11_4) t11_7)
def t11_8 := b11_8
theorem u11_8 : vcK P t11_8 k e w = vcK P b11_8 k e w := rfl
abbrev b11_9 : X := (.seq (.reg [1, 7, 13, 21, 22, 23, 132, 133, 134] (.c (.q 139 [] (.mv (.t 13))) (.c (.q 23 [] (.mv (.t 139))) .nil))) t11_8)
def t11_9 := b11_9
theorem u11_9 : vcK P t11_9 k e w = vcK P b11_9 k e w := rfl
abbrev b11_10 : X := (.reg [1, 7, 13, 132, 133, 134] (.c (.q 166 [] (.bin .add (.t 134) (.c (.int .i64 1)))) (.c (.q 134 [] (.mv (.t 166))) .nil)))
def t11_10 := b11_10
theorem u11_10 : vcK P t11_10 k e w = vcK P b11_10 k e w := rfl
abbrev b11_11 : X := (.seq (.blk 1 (.seq (.reg [1, 7, 13, 21, 22, 132, 133, 134] (.c (.q 136 [] (.mv (.t 134))) (.c (.q 137 [] (.ia 1 (.t 132) (.t 134))) (.c (.q 138 [] (.ld (.t 137))) (.c (.q 21 [] (.mv (.t 136))) (.c (.q 22 [] (.mv (.t 138))) .nil)))))) t11_9)) t11_10)
def t11_11 := b11_11
theorem u11_11 : vcK P t11_11 k e w = vcK P b11_11 k e w := rfl
abbrev b11_12 : X := (.seq (.cond (.t 135) .skip (.exit 0)) t11_11)
def t11_12 := b11_12
theorem u11_12 : vcK P t11_12 k e w = vcK P b11_12 k e w := rfl
abbrev b11_13 : X := (.seq (.reg [1, 7, 13, 132, 133, 134, 135] (.c (.q 135 [] (.bin .lss (.t 134) (.t 133))) .nil)) t11_12)
def t11_13 := b11_13
theorem u11_13 : vcK P t11_13 k e w = vcK P b11_13 k e w := rfl
abbrev b11_14 : X := (.blk 0 (.loop [134] [1, 7, 13, 132, 133] t11_13))
def t11_14 := b11_14
theorem u11_14 : vcK P t11_14 k e w = vcK P b11_14 k e w := rfl
abbrev b11_15 : X := (.seq (.reg [1, 7, 13, 132, 133, 134] (.c (.q 131 [] (.fa 2 (.t 5))) (.c (.q 132 [] (.ld (.t 131))) (.c (.q 133 [] (.lens (.t 132))) (.c (.q 134 [] (.mv (.c (.int .i64 0)))) .nil))))) t11_14)
def t11_15 := b11_15
theorem u11_15 : vcK P t11_15 k e w = vcK P b11_15 k e w := rfl
abbrev b11_16 : X := (.seq (.seq (.reg [1, 5, 7, 13, 130] (.c (.q 100 [] (.mv (.t 12))) (.c (.q 101 [] (.not (.t 100))) (.c (.q 102 [] (.mv (.t 101))) (.c (.q 103 [(102, false)] (.mv (.t 14))) (.c (.q 104 [(102, false)] (.not (.t 103))) (.c (.q 105 [] (.pick (.t 102) (.c (.bool true)) (.t 104))) (.c (.q 106 [] (.mv (.t 105))) (.c (.q 107 [(106, false)] (.mv (.t 7))) (.c (.q 108 [(106, false)] (.lens (.t 107))) (.c (.q 109 [(106, false)] (.fa 2 (.t 5))) (.c (.q 110 [(106, false)] (.ld (.t 109))) (.c (.q 111 [(106, false)] (.lens (.t 110))) (.c (.q 112 [(106, false)] (.bin .neq (.t 108) (.t 111))) (.c (.q 113 [] (.pick (.t 106) (.c (.bool true)) (.t 112))) (.c (.q 114 [] (.mv (.t 113))) (.c (.q 115 [(114, false)] (.mv (.t 16))) (.c (.q 116 [(114, false)] (.not (.t 115))) (.c (.q 117 [] (.pick (.t 114) (.c (.bool true)) (.t 116))) (.c (.q 118 [] (.mv (.t 117))) (.c (.q 119 [(118, false)] (.mv (.t 18))) (.c (.q 120 [(118, false)] (.not (.t 119))) (.c (.q 121 [] (.pick (.t 118) (.c (.bool true)) (.t 120))) (.c (.q 122 [] (.mv (.t 121))) (.c (.q 123 [(122, false)] (.mv (.t 20))) (.c (.q 124 [(122, false)] (.not (.t 123))) (.c (.q 125 [] (.pick (.t 122) (.c (.bool true)) (.t 124))) (.c (.q 126 [] (.mv (.t 125))) (.c (.q 127 [(126, false)] (.mv (.t 17))) (.c (.q 128 [(126, false)] (.mv (.t 19))) (.c (.q 129 [(126, false)] (.bin .neq (.t 127) (.t 128))) (.c (.q 130 [] (.pick (.t 126) (.c (.bool true)) (.t 129))) .nil)))))))))))))))))))))))))))))))) t11_3) t11_15)
def t11_16 := b11_16
theorem u11_16 : vcK P t11_16 k e w = vcK P b11_16 k e w := rfl
abbrev b11_17 : X := (.seq (.reg [1, 5, 7, 12, 13, 14, 16, 17, 18, 19, 20] (.c (.q 96 [] (.mv (.t 11))) (.c (.e (some 97) [] (.call false 39 [(.t 96)])) (.c (.q 95 [] (.mv (.t 97))) (.c (.q 98 [] (.ext 0 (.t 95))) (.c (.q 99 [] (.ext 1 (.t 95))) (.c (.q 19 [] (.mv (.t 98))) (.c (.q 20 [] (.mv (.t 99))) .nil)))))))) t11_16)
def t11_17 := b11_17
theorem u11_17 : vcK P t11_17 k e w = vcK P b11_17 k e w := rfl
abbrev b11_18 : X := (.seq (.reg [1, 5, 7, 11, 12, 13, 14, 16, 17, 18] (.c (.q 91 [] (.lda 3 (.t 15))) (.c (.e (some 92) [] (.call false 36 [(.t 91)])) (.c (.q 90 [] (.mv (.t 92))) (.c (.q 93 [] (.ext 0 (.t 90))) (.c (.q 94 [] (.ext 1 (.t 90))) (.c (.q 17 [] (.mv (.t 93))) (.c (.q 18 [] (.mv (.t 94))) .nil)))))))) t11_17)
def t11_18 := b11_18
theorem u11_18 : vcK P t11_18 k e w = vcK P b11_18 k e w := rfl
abbrev b11_19 : X := (.seq (.reg [1, 5, 7, 11, 12, 13, 14, 15, 16] (.c (.q 86 [] (.lda 3 (.t 5))) (.c (.e (some 87) [] (.call false 43 [(.t 86)])) (.c (.q 85 [] (.mv (.t 87))) (.c (.q 88 [] (.ext 0 (.t 85))) (.c (.q 89 [] (.ext 1 (.t 85))) (.c (.e (some 15) [] (.al 41 [(S []), (.int .i64 0), (.slice none 0 0)])) (.c (.e none [] (.st 3 (.t 15) (.t 88))) (.c (.q 16 [] (.mv (.t 89))) .nil))))))))) t11_18)
def t11_19 := b11_19
theorem u11_19 : vcK P t11_19 k e w = vcK P b11_19 k e w := rfl
abbrev b11_20 : X := (.seq (.reg [1, 5, 7, 11, 12, 13, 14] (.c (.q 80 [] (.mv (.t 6))) (.c (.q 81 [] (.mv (.t 11))) (.c (.e (some 82) [] (.call false 40 [(.t 80), (.t 81)])) (.c (.q 79 [] (.mv (.t 82))) (.c (.q 83 [] (.ext 0 (.t 79))) (.c (.q 84 [] (.ext 1 (.t 79))) (.c (.q 13 [] (.mv (.t 83))) (.c (.q 14 [] (.mv (.t 84))) .nil))))))))) t11_19)
def t11_20 := b11_20
theorem u11_20 : vcK P t11_20 k e w = vcK P b11_20 k e w := rfl
abbrev b11_21 : X := (.cond (.t 73) (.seq (.reg [1, 5, 6, 7, 11, 12] (.c (.q 75 [] (.lda 3 (.t 5))) (.c (.e (some 76) [] (.call false 36 [(.t 75)])) (.c (.q 74 [] (.mv (.t 76))) (.c (.q 77 [] (.ext 0 (.t 74))) (.c (.q 78 [] (.ext 1 (.t 74))) (.c (.q 11 [] (.mv (.t 77))) (.c (.q 12 [] (.mv (.t 78))) .nil)))))))) t11_20) .skip)
def t11_21 := b11_21
theorem u11_21 : vcK P t11_21 k e w = vcK P b11_21 k e w := rfl
abbrev b11_22 : X := (.cond (.t 207) (.seq (.reg [4] (.c (.q 4 [] (.mv (.c (.bool false)))) .nil)) .ret) .skip)
def t11_22 := b11_22
theorem u11_22 : vcK P t11_22 k e w = vcK P b11_22 k e w := rfl
abbrev b11_23 : X := (.seq (.reg [4] (.c (.q 219 [] (.mv (.t 32))) (.c (.q 220 [] (.mv (.t 219))) (.c (.q 221 [(220, true)] (.mv (.t 27))) (.c (.q 222 [(220, true)] (.lens (.t 221))) (.c (.q 223 [(220, true)] (.mv (.t 31))) (.c (.q 224 [(220, true)] (.fa 2 (.t 26))) (.c (.q 225 [(220, true)] (.ld (.t 224))) (.c (.q 226 [(220, true)] (.lens (.t 225))) (.c (.q 227 [(220, true)] (.bin .mul (.t 223) (.t 226))) (.c (.q 228 [(220, true)] (.bin .eql (.t 222) (.t 227))) (.c (.q 229 [] (.pick (.t 220) (.t 228) (.c (.bool false)))) (.c (.q 230 [] (.mv (.t 229))) (.c (.q 231 [(230, true)] (.mv (.t 36))) (.c (.q 232 [] (.pick (.t 230) (.t 231) (.c (.bool false)))) (.c (.q 233 [] (.mv (.t 232))) (.c (.q 234 [(233, true)] (.mv (.t 35))) (.c (.q 235 [] (.pick (.t 233) (.t 234) (.c (.bool false)))) (.c (.q 4 [] (.mv (.t 235))) .nil))))))))))))))))))) .ret)
def t11_23 := b11_23
theorem u11_23 : vcK P t11_23 k e w = vcK P b11_23 k e w := rfl
abbrev b11_24 : X := (.cond (.t 213) (.seq (.reg [26, 27, 31, 32, 35, 36] (.c (.q 215 [] (.mv (.t 27))) (.c (.e (some 216) [] (.call false 120 [(.t 215)])) (.c (.q 214 [] (.mv (.t 216))) (.c (.q 217 [] (.ext 0 (.t 214))) (.c (.q 218 [] (.ext 1 (.t 214))) (.c (.q 35 [] (.mv (.t 217))) (.c (.q 36 [] (.mv (.t 218))) .nil)))))))) t11_23) .skip)
def t11_24 := b11_24
theorem u11_24 : vcK P t11_24 k e w = vcK P b11_24 k e w := rfl
abbrev b11_25 : X := (.seq (.reg [4] (.c (.q 4 [] (.mv (.c (.bool true)))) .nil)) .ret)
def t11_25 := b11_25
theorem u11_25 : vcK P t11_25 k e w = vcK P b11_25 k e w := rfl
abbrev b11_26 : X := (.seq (.seq (.reg [26, 27, 31, 32, 213] (.c (.q 208 [] (.mv (.t 28))) (.c (.q 209 [] (.mv (.t 208))) (.c (.q 210 [(209, true)] (.mv (.t 27))) (.c (.q 211 [(209, true)] (.lens (.t 210))) (.c (.q 212 [(209, true)] (.bin .gtr (.t 211) (.c (.int .i64 1)))) (.c (.q 213 [] (.pick (.t 209) (.t 212) (.c (.bool false)))) .nil))))))) t11_24) t11_25)
def t11_26 := b11_26
theorem u11_26 : vcK P t11_26 k e w = vcK P b11_26 k e w := rfl
abbrev b11_27 : X := (.seq (.seq (.reg [26, 27, 28, 31, 32, 207] (.c (.q 189 [] (.mv (.t 28))) (.c (.q 190 [] (.mv (.t 30))) (.c (.q 191 [] (.beq true (.t 189) (.t 190))) (.c (.q 192 [] (.mv (.t 191))) (.c (.q 193 [(192, false)] (.mv (.t 27))) (.c (.q 194 [(192, false)] (.mv (.t 29))) (.c (.e (some 195) [(192, false)] (.call false 93 [(.t 193), (.t 194)])) (.c (.q 196 [(192, false)] (.not (.t 195))) (.c (.q 197 [] (.pick (.t 192) (.c (.bool true)) (.t 196))) (.c (.q 198 [] (.mv (.t 197))) (.c (.q 199 [(198, false)] (.mv (.t 32))) (.c (.q 200 [(198, false)] (.mv (.t 34))) (.c (.q 201 [(198, false)] (.beq true (.t 199) (.t 200))) (.c (.q 202 [] (.pick (.t 198) (.c (.bool true)) (.t 201))) (.c (.q 203 [] (.mv (.t 202))) (.c (.q 204 [(203, false)] (.mv (.t 31))) (.c (.q 205 [(203, false)] (.mv (.t 33))) (.c (.q 206 [(203, false)] (.bin .neq (.t 204) (.t 205))) (.c (.q 207 [] (.pick (.t 203) (.c (.bool true)) (.t 206))) .nil)))))))))))))))))))) t11_22) t11_26)
def t11_27 := b11_27
theorem u11_27 : vcK P t11_27 k e w = vcK P b11_27 k e w := rfl
abbrev b11_28 : X := (.seq (.reg [26, 27, 28, 29, 30, 31, 32, 33, 34] (.c (.q 185 [] (.lda 3 (.t 26))) (.c (.e (some 186) [] (.call false 119 [(.t 185)])) (.c (.q 184 [] (.mv (.t 186))) (.c (.q 187 [] (.ext 0 (.t 184))) (.c (.q 188 [] (.ext 1 (.t 184))) (.c (.q 33 [] (.mv (.t 187))) (.c (.q 34 [] (.mv (.t 188))) .nil)))))))) t11_27)
def t11_28 := b11_28
theorem u11_28 : vcK P t11_28 k e w = vcK P b11_28 k e w := rfl
abbrev b11_29 : X := (.seq (.reg [26, 27, 28, 29, 30, 31, 32] (.c (.q 180 [] (.lda 3 (.t 26))) (.c (.e (some 181) [] (.call false 41 [(.t 180)])) (.c (.q 179 [] (.mv (.t 181))) (.c (.q 182 [] (.ext 0 (.t 179))) (.c (.q 183 [] (.ext 1 (.t 179))) (.c (.q 31 [] (.mv (.t 182))) (.c (.q 32 [] (.mv (.t 183))) .nil)))))))) t11_28)
def t11_29 := b11_29
theorem u11_29 : vcK P t11_29 k e w = vcK P b11_29 k e w := rfl
abbrev b11_30 : X := (.seq (.reg [26, 27, 28, 29, 30] (.c (.q 175 [] (.lda 3 (.t 26))) (.c (.e (some 176) [] (.call false 118 [(.t 175)])) (.c (.q 174 [] (.mv (.t 176))) (.c (.q 177 [] (.ext 0 (.t 174))) (.c (.q 178 [] (.ext 1 (.t 174))) (.c (.q 29 [] (.mv (.t 177))) (.c (.q 30 [] (.mv (.t 178))) .nil)))))))) t11_29)
def t11_30 := b11_30
theorem u11_30 : vcK P t11_30 k e w = vcK P b11_30 k e w := rfl
abbrev b11_31 : X := (.seq (.reg [26, 27, 28] (.c (.q 170 [] (.lda 3 (.t 26))) (.c (.e (some 171) [] (.call false 117 [(.t 170)])) (.c (.q 169 [] (.mv (.t 171))) (.c (.q 172 [] (.ext 0 (.t 169))) (.c (.q 173 [] (.ext 1 (.t 169))) (.c (.q 27 [] (.mv (.t 172))) (.c (.q 28 [] (.mv (.t 173))) .nil)))))))) t11_30)
def t11_31 := b11_31
theorem u11_31 : vcK P t11_31 k e w = vcK P b11_31 k e w := rfl
abbrev b11_32 : X := (.seq (.reg [26] (.c (.q 167 [] (.mv (.t 1))) (.c (.e (some 168) [] (.call false 116 [(.t 167)])) (.c (.e (some 26) [] (.al 41 [(S []), (.int .i64 0), (.slice none 0 0)])) (.c (.e none [] (.st 3 (.t 26) (.t 168))) .nil))))) t11_31)
def t11_32 := b11_32
theorem u11_32 : vcK P t11_32 k e w = vcK P b11_32 k e w := rfl
abbrev b11_33 : X := (.seq (.seq (.reg [1, 5, 6, 7, 73] (.c (.q 73 [] (.mv (.t 8))) .nil)) t11_21) t11_32)
def t11_33 := b11_33
theorem u11_33 : vcK P t11_33 k e w = vcK P b11_33 k e w := rfl
abbrev b11_34 : X := (.seq (.seq (.drw [1, 5, 6, 7, 8, 72] (.c (.q 57 [] (.mv (.t 8))) (.c (.q 58 [] (.mv (.t 10))) (.c (.q 59 [] (.beq true (.t 57) (.t 58))) (.c (.q 60 [] (.mv (.t 59))) (.c (.q 61 [(60, false)] (.mv (.t 7))) (.c (.q 62 [(60, false)] (.mv (.t 9))) (.c (.e (some 63) [(60, false)] (.call false 93 [(.t 61), (.t 62)])) (.c (.q 64 [(60, false)] (.not (.t 63))) (.c (.q 65 [] (.pick (.t 60) (.c (.bool true)) (.t 64))) (.c (.q 66 [] (.mv (.t 65))) (.c (.q 67 [(66, false)] (.lda 3 (.t 5))) (.c (.q 69 [(66, false)] (.lda 3 (.t 5))) (.c (.e (some 68) [(66, false)] (.call false 113 [(.t 67)])) (.c (.e (some 70) [(66, false)] (.call false 114 [(.t 69)])) (.c (.q 71 [(66, false)] (.beq true (.t 68) (.t 70))) (.c (.q 72 [] (.pick (.t 66) (.c (.bool true)) (.t 71))) .nil))))))))))))))))) t11_2) t11_33)
def t11_34 := b11_34
theorem u11_34 : vcK P t11_34 k e w = vcK P b11_34 k e w := rfl
abbrev b11_35 : X := (.seq (.reg [1, 5, 6, 7, 8, 9, 10] (.c (.q 52 [] (.lda 3 (.t 5))) (.c (.q 53 [] (.mv (.t 6))) (.c (.e (some 54) [] (.call false 112 [(.t 52), (.t 53)])) (.c (.q 51 [] (.mv (.t 54))) (.c (.q 55 [] (.ext 0 (.t 51))) (.c (.q 56 [] (.ext 1 (.t 51))) (.c (.q 9 [] (.mv (.t 55))) (.c (.q 10 [] (.mv (.t 56))) .nil))))))))) t11_34)
def t11_35 := b11_35
theorem u11_35 : vcK P t11_35 k e w = vcK P b11_35 k e w := rfl
abbrev b11_36 : X := (.seq (.reg [1, 5, 6, 7, 8] (.c (.q 46 [] (.lda 3 (.t 5))) (.c (.q 47 [] (.mv (.t 6))) (.c (.e (some 48) [] (.call false 38 [(.t 46), (.t 47)])) (.c (.q 45 [] (.mv (.t 48))) (.c (.q 49 [] (.ext 0 (.t 45))) (.c (.q 50 [] (.ext 1 (.t 45))) (.c (.q 7 [] (.mv (.t 49))) (.c (.q 8 [] (.mv (.t 50))) .nil))))))))) t11_35)
def t11_36 := b11_36
theorem u11_36 : vcK P t11_36 k e w = vcK P b11_36 k e w := rfl
abbrev b11_37 : X := (.seq (.reg [1, 5, 6] (.c (.q 41 [] (.mv (.t 0))) (.c (.e (some 42) [] (.call false 111 [(.t 41)])) (.c (.q 40 [] (.mv (.t 42))) (.c (.q 43 [] (.ext 0 (.t 40))) (.c (.q 44 [] (.ext 1 (.t 40))) (.c (.e (some 5) [] (.al 41 [(S []), (.int .i64 0), (.slice none 0 0)])) (.c (.e none [] (.st 3 (.t 5) (.t 43))) (.c (.q 6 [] (.mv (.t 44))) .nil))))))))) t11_36)
def t11_37 := b11_37
theorem u11_37 : vcK P t11_37 k e w = vcK P b11_37 k e w := rfl
abbrev b11_38 : X := (.seq (.seq (.reg [0, 1, 39] (.c (.q 37 [] (.mv (.t 0))) (.c (.q 38 [] (.mv (.t 1))) (.c (.e (some 39) [] (.call false 31 [(.t 37), (.t 38)])) .nil)))) t11_1) t11_37)
def t11_38 := b11_38
theorem u11_38 : vcK P t11_38 k e w = vcK P b11_38 k e w := rfl
abbrev b11_0 : X := (.seq (.reg [0, 1] (.c (.q 4 [] (.mv (.c (.bool false)))) .nil)) t11_38)
def x_lFnLeads := b11_0
theorem u11_0 : vcK P x_lFnLeads k e w = vcK P b11_0 k e w := rfl
def r_lFnLeads : List XO := [(.mv (.t 4))]
theorem c_lFnLeads : convF Try.prog [169, 170, 207, 208, 210, 227, 232, 233, 255, 259, 268, 269, 270, 280, 281, 296, 299, 306, 307, 309] Try.f11 [([0, 1], []), ([0, 1, 39], []), ([4], []), ([1, 5, 6], []), ([1, 5, 6, 7, 8], []), ([1, 5, 6, 7, 8, 9, 10], []), ([1, 5, 6, 7, 8, 72], []), ([4], []), ([1, 5, 6, 7, 73], []), ([1, 5, 6, 7, 11, 12], []), ([1, 5, 7, 11, 12, 13, 14], []), ([1, 5, 7, 11, 12, 13, 14, 15, 16], []), ([1, 5, 7, 11, 12, 13, 14, 16, 17, 18], []), ([1, 5, 7, 12, 13, 14, 16, 17, 18, 19, 20], []), ([1, 5, 7, 13, 130], []), ([4], []), ([1, 7, 13, 132, 133, 134], []), ([134], [1, 7, 13, 132, 133]), ([1, 7, 13, 132, 133, 134, 135], []), ([1, 7, 13, 21, 22, 132, 133, 134], []), ([1, 7, 13, 21, 22, 23, 132, 133, 134], []), ([1, 7, 13, 21, 22, 23, 132, 133, 134, 144], []), ([1, 7, 13, 21, 22, 23, 132, 133, 134], []), ([1, 7, 13, 23, 24, 25, 132, 133, 134], []), ([1, 7, 13, 132, 133, 134, 165], []), ([4], []), ([1, 7, 13, 132, 133, 134], []), ([26], []), ([26, 27, 28], []), ([26, 27, 28, 29, 30], []), ([26, 27, 28, 29, 30, 31, 32], []), ([26, 27, 28, 29, 30, 31, 32, 33, 34], []), ([26, 27, 28, 31, 32, 207], []), ([4], []), ([26, 27, 31, 32, 213], []), ([26, 27, 31, 32, 35, 36], []), ([4], []), ([4], [])] = some (x_lFnLeads, r_lFnLeads) := by kernel_rfl
def us_lFnLeads := aI @u11_0 (aI @u11_1 (aI @u11_2 (aI @u11_3 (aI @u11_4 (aI @u11_5 (aI @u11_6 (aI @u11_7 (aI @u11_8 (aI @u11_9 (aI @u11_10 (aI @u11_11 (aI @u11_12 (aI @u11_13 (aI @u11_14 (aI @u11_15 (aI @u11_16 (aI @u11_17 (aI @u11_18 (aI @u11_19 (aI @u11_20 (aI @u11_21 (aI @u11_22 (aI @u11_23 (aI @u11_24 (aI @u11_25 (aI @u11_26 (aI @u11_27 (aI @u11_28 (aI @u11_29 (aI @u11_30 (aI @u11_31 (aI @u11_32 (aI @u11_33 (aI @u11_34 (aI @u11_35 (aI @u11_36 (aI @u11_37 @u11_38)))))))))))))))))))))))))))))))))))))
end

theorem ord_of (nm : List UInt8) (st : Int) (cs : List (List UInt8)) : ∃ k : Nat, k ≤ 840 ∧ (IsMethod nm st cs → IsOrd (hdL st.toNat cs) k) := by
  by_cases hm : IsMethod nm st cs
  · obtain ⟨k, hk⟩ := ord_exists (hdL_row (n := st.toNat) (by have := hm.2.1; omega) cs).1
    exact ⟨k, hk.2.1, fun _ => hk⟩
  · exact ⟨0, by decide, fun h => absurd h hm⟩
theorem sGoodMethod_okd (nm : List UInt8) (st : Int) (v : Value) (cs : List (List UInt8)) (hnm : nm.length ≤ 1048576) (hs : ∀ c ∈ cs, c.length ≤ 1048576) (hl : cs.length ≤ 1000000000) (w : World) (h : Sq fS 1 w v cs) : Fn 114 [mV nm st v] w (fun r _ => r = .bool (decide (IsMethod nm st cs))) := by
  (refine callsV_of mix Try.func114 c_sGoodMethod ?_; simp only [↓vsd, vsn, gW, qd, qv, ev, pick, argE, zipE, ne_eq, eq_self, forall_const, implies_true, if_true, if_false, reduceIte, reduceCtorEq, Nat.reduceEqDiff, Nat.reduceAdd, Nat.reduceLT, ↓us_sGoodMethod, r_sGoodMethod])
  refine m_al ?_
  rintro b w1 hb hblk hx1 hs1
  have h1 : Blk w1 b (fM nm st v) 41 := hblk
  simp only [↓vsd, vsn, gW, qd, qv, ev, pick, argE, zipE, ne_eq, eq_self, forall_const, implies_true, if_true, if_false, reduceIte, reduceCtorEq, Nat.reduceEqDiff, Nat.reduceAdd, Nat.reduceLT, ↓us_sGoodMethod, r_sGoodMethod, h1.facts, fMg]
  refine m_call (sl4Good_ok nm st v cs hnm hs hl _ (h.ext hx1)) ?_
  rintro _ w2 hx2 rfl
  simp only [↓vsd, vsn, gW, qd, qv, ev, pick, argE, zipE, ne_eq, eq_self, forall_const, implies_true, if_true, if_false, reduceIte, reduceCtorEq, Nat.reduceEqDiff, Nat.reduceAdd, Nat.reduceLT, ↓us_sGoodMethod, r_sGoodMethod]
  exact hx1.trans hx2
set_option maxHeartbeats 4000000 in
theorem lFnLeads_ok (v u : Value) (code more : List UInt8) (hcl : code.length ≤ 9223372036854775807) (hml : more.length ≤ 9223372036854775807) (w : World) (h : Sq fU 1 w v code) (h' : Sq fU 1 w u more) : Fn 11 [v, u] w (fun r _ => r = .bool true) := by
  (refine callsV_of mix Try.func11 c_lFnLeads ?_; simp only [↓vsd, vsn, gW, qd, qv, ev, pick, argE, zipE, ne_eq, eq_self, forall_const, implies_true, if_true, if_false, reduceIte, reduceCtorEq, Nat.reduceEqDiff, Nat.reduceAdd, Nat.reduceLT, ↓us_lFnLeads, r_lFnLeads])
  refine m_call (lbig_ok v u code more hcl hml _ h h') ?_
  rintro _ w0 hx0 rfl
  simp only [↓vsd, vsn, gW, qd, qv, ev, pick, argE, zipE, ne_eq, eq_self, forall_const, implies_true, if_true, if_false, reduceIte, reduceCtorEq, Nat.reduceEqDiff, Nat.reduceAdd, Nat.reduceLT, ↓us_lFnLeads, r_lFnLeads]
  refine ⟨fun _ => hx0, fun hsm => ?_⟩
  have hlen : code.length ≤ 1048576 ∧ more.length ≤ 1048576 := by omega
  refine m_call (sDrawLeadRows_ok v code hlen.1 _ (h.ext hx0)) ?_
  rintro _ w1 hx1 ⟨nm, st, x, cs, l, rfl, ho1, hnm, hst, hcs, hc8, hll⟩
  simp only [↓vsd, vsn, gW, qd, qv, ev, pick, argE, zipE, ne_eq, eq_self, forall_const, implies_true, if_true, if_false, reduceIte, reduceCtorEq, Nat.reduceEqDiff, Nat.reduceAdd, Nat.reduceLT, ↓us_lFnLeads, r_lFnLeads]
  refine m_al ?_
  rintro bm w2 hbm hblk2 hx2 hs2
  simp only [↓vsd, vsn, gW, qd, qv, ev, pick, argE, zipE, ne_eq, eq_self, forall_const, implies_true, if_true, if_false, reduceIte, reduceCtorEq, Nat.reduceEqDiff, Nat.reduceAdd, Nat.reduceLT, ↓us_lFnLeads, r_lFnLeads]
  refine m_st hblk2 rfl (Nat.le_refl 3) (fM_one nm st x ho1.sq.one') ?_
  rintro w3 hblk3 hu3
  have hmL : Blk w3 bm (fM nm st x) 41 := hblk3
  have hoL := (ho1.ext hx2).upd hu3 (ho1.away (by omega))
  have hxL : Ext w w3 := hu3.below ((hx0.trans hx1).trans hx2) (by have := hx0.size; have := hx1.size; omega)
  have hnm' : nm.length ≤ 1048576 := by omega
  have hc8' : ∀ c ∈ cs, c.length ≤ 1048576 := fun c hc => by have := hc8 c hc; omega
  have hcs' : cs.length ≤ 1000000000 := by omega
  clear hblk2 hblk3 hx1 hx2 hu3 ho1 hbm hs2
  simp only [↓vsd, vsn, gW, qd, qv, ev, pick, argE, zipE, ne_eq, eq_self, forall_const, implies_true, if_true, if_false, reduceIte, reduceCtorEq, Nat.reduceEqDiff, Nat.reduceAdd, Nat.reduceLT, ↓us_lFnLeads, r_lFnLeads, hmL.facts, fMg]
  refine m_call (iLeadRows_ok nm st x cs l hnm' hc8' hcs' _ hoL.sq) ?_
  rintro _ w4 hxn ⟨y1, rfl, hy1⟩
  have hmL := hmL.ext hxn
  have hoL := hoL.ext hxn
  have hxL := hxL.trans hxn
  simp only [↓vsd, vsn, gW, qd, qv, ev, pick, argE, zipE, ne_eq, eq_self, forall_const, implies_true, if_true, if_false, reduceIte, reduceCtorEq, Nat.reduceEqDiff, Nat.reduceAdd, Nat.reduceLT, ↓us_lFnLeads, r_lFnLeads, hmL.facts, fMg]
  refine m_call (sLeadRows_ok nm st x cs l hnm' hc8' hcs' _ hoL.sq) ?_
  rintro _ w5 hxn ⟨y2, rfl, hy2⟩
  have hy1 := hy1.ext hxn
  have hmL := hmL.ext hxn
  have hoL := hoL.ext hxn
  have hxL := hxL.trans hxn
  have hL1 : (leadV nm st cs l).length ≤ 1000 := by unfold leadV; split <;> simp [rowsU_len]; omega
  simp only [↓vsd, vsn, gW, qd, qv, ev, pick, argE, zipE, ne_eq, eq_self, forall_const, implies_true, if_true, if_false, reduceIte, reduceCtorEq, Nat.reduceEqDiff, Nat.reduceAdd, Nat.reduceLT, ↓us_lFnLeads, r_lFnLeads]
  have hm5 := hmL
  refine m_call (lsameTexts_ok y1 y2 _ _ _ hy1.sq hy2.sq (by omega)) ?_
  rintro _ w6 hxn rfl
  have hxn : Ext w5 w6 := by first | exact hxn | exact ud hxn | exact ud (ud hxn)
  have hy1 := hy1.ext hxn
  have hmL := hmL.ext hxn
  have hoL := hoL.ext hxn
  have hxL := hxL.trans hxn
  simp only [↓vsd, vsn, gW, qd, qv, ev, pick, argE, zipE, ne_eq, eq_self, forall_const, implies_true, if_true, if_false, reduceIte, reduceCtorEq, Nat.reduceEqDiff, Nat.reduceAdd, Nat.reduceLT, ↓us_lFnLeads, r_lFnLeads, hm5.facts, hmL.facts, fMg]
  refine m_call (iGoodMethod_ok nm st x cs hnm' hc8' hcs' _ (by first | exact hoL.sq | exact (hoL.ext (dr (Ext.refl _))).sq)) ?_
  rintro _ w7 hxn rfl
  have hxn : Ext w6 w7 := by first | exact hxn | exact ud hxn | exact ud (ud hxn)
  have hy1 := hy1.ext hxn
  have hmL := hmL.ext hxn
  have hoL := hoL.ext hxn
  have hxL := hxL.trans hxn
  simp only [↓vsd, vsn, gW, qd, qv, ev, pick, argE, zipE, ne_eq, eq_self, forall_const, implies_true, if_true, if_false, reduceIte, reduceCtorEq, Nat.reduceEqDiff, Nat.reduceAdd, Nat.reduceLT, ↓us_lFnLeads, r_lFnLeads, hm5.facts, hmL.facts, fMg]
  refine m_call (sGoodMethod_okd nm st x cs hnm' hc8' hcs' _ (by first | exact hoL.sq | exact (hoL.ext (dr (Ext.refl _))).sq)) ?_
  rintro _ w8 hxn rfl
  have hxn : Ext w7 w8 := by first | exact hxn | exact ud hxn | exact ud (ud hxn)
  have hy1 := hy1.ext hxn
  have hmL := hmL.ext hxn
  have hoL := hoL.ext hxn
  have hxL := hxL.trans hxn
  by_cases hO : LeadOk nm st cs l
  · have hOd := decide_eq_true hO
    obtain ⟨n, rfl⟩ : ∃ n : Nat, st = n := ⟨st.toNat, by omega⟩
    rw [leadV, if_pos hO] at hy1
    have hm := hO.1
    have h8 := hm.2.1
    have hcl := hm.2.2.1
    have h3 : 3 ≤ n ∧ n ≤ 8 := by omega
    have hH := under_row h3 cs
    have hV : headV nm n cs = .tuple ⟨[S (underL (roundsL n) cs), .bool true]⟩ := by rw [headV, if_pos hm, Int.toNat_natCast]
    simp only [↓vsd, vsn, gW, qd, qv, ev, pick, argE, zipE, ne_eq, eq_self, forall_const, implies_true, if_true, if_false, reduceIte, reduceCtorEq, Nat.reduceEqDiff, Nat.reduceAdd, Nat.reduceLT, ↓us_lFnLeads, r_lFnLeads, hOd, hm5.facts, hmL.facts, fMg]
    refine m_call (iLeadHead_ok nm n x cs hnm' hc8' hcs' _ hoL.sq) ?_
    rintro re w9 hxn hre
    rw [hV] at hre
    subst hre
    have hy1 := hy1.ext hxn
    have hmL := hmL.ext hxn
    have hoL := hoL.ext hxn
    have hxL := hxL.trans hxn
    simp only [↓vsd, vsn, gW, qd, qv, ev, pick, argE, zipE, ne_eq, eq_self, forall_const, implies_true, if_true, if_false, reduceIte, reduceCtorEq, Nat.reduceEqDiff, Nat.reduceAdd, Nat.reduceLT, ↓us_lFnLeads, r_lFnLeads]
    refine m_call (iTimes_ok l (underL (roundsL n) cs) _) ?_
    rintro re w10 hxn hre
    have hll2 : l.length = n := by have := hO.2.2; omega
    rw [timesV, if_pos ⟨hO.2.1, hH.1, by rw [hH.2]; exact hll2⟩] at hre
    subst hre
    have hy1 := hy1.ext hxn
    have hmL := hmL.ext hxn
    have hoL := hoL.ext hxn
    have hxL := hxL.trans hxn
    simp only [↓vsd, vsn, gW, qd, qv, ev, pick, argE, zipE, ne_eq, eq_self, forall_const, implies_true, if_true, if_false, reduceIte, reduceCtorEq, Nat.reduceEqDiff, Nat.reduceAdd, Nat.reduceLT, ↓us_lFnLeads, r_lFnLeads, hmL.facts, fMg]
    refine m_call (iTurnMethod_ok nm n x cs hm hnm' hc8' hcs' _ hoL.sq) ?_
    rintro _ w11 hxn ⟨xr, rfl, hoR⟩
    have hy1 := hy1.ext hxn
    have hmL := hmL.ext hxn
    have hoL := hoL.ext hxn
    have hxL := hxL.trans hxn
    have lm := hmL.lt
    have szL := hxL.size
    simp only [↓vsd, vsn, gW, qd, qv, ev, pick, argE, zipE, ne_eq, eq_self, forall_const, implies_true, if_true, if_false, reduceIte, reduceCtorEq, Nat.reduceEqDiff, Nat.reduceAdd, Nat.reduceLT, ↓us_lFnLeads, r_lFnLeads]
    refine m_al ?_
    rintro br w12 hbr hblk12 hx12 hs12
    simp only [↓vsd, vsn, gW, qd, qv, ev, pick, argE, zipE, ne_eq, eq_self, forall_const, implies_true, if_true, if_false, reduceIte, reduceCtorEq, Nat.reduceEqDiff, Nat.reduceAdd, Nat.reduceLT, ↓us_lFnLeads, r_lFnLeads]
    refine m_st hblk12 rfl (Nat.le_refl 3) (fM_one nm n xr hoR.sq.one') ?_
    rintro w13 hblk13 hu13
    have hmR : Blk w13 br (fM nm n xr) 41 := hblk13
    have hoR' := (hoR.ext hx12).upd hu13 (hoR.away (by omega))
    have hy1 := (hy1.ext hx12).upd hu13 (hy1.away (by omega))
    have hoL := (hoL.ext hx12).upd hu13 (hoL.away (by omega))
    have hmL := hu13.blk (hmL.ext hx12) (by omega)
    have hxL : Ext w w13 := hu13.below (hxL.trans hx12) (by omega)
    clear hblk12 hblk13 hx12 hu13 hoR
    have hmr : IsMethod nm n cs.reverse := ⟨hm.1, hm.2.1, by rw [List.length_reverse]; exact hm.2.2.1, fun c hc => hm.2.2.2 c (List.mem_reverse.1 hc)⟩
    have hVr : headV nm n cs.reverse = .tuple ⟨[S (turnL (underL (roundsL n) cs)), .bool true]⟩ := by rw [headV, if_pos hmr, Int.toNat_natCast, back_head h3 hm.2.2.2]
    simp only [↓vsd, vsn, gW, qd, qv, ev, pick, argE, zipE, ne_eq, eq_self, forall_const, implies_true, if_true, if_false, reduceIte, reduceCtorEq, Nat.reduceEqDiff, Nat.reduceAdd, Nat.reduceLT, ↓us_lFnLeads, r_lFnLeads, hmR.facts, fMg]
    refine m_call (iLeadHead_ok nm n xr cs.reverse hnm' (fun c hc => hc8' c (List.mem_reverse.1 hc)) (by rw [List.length_reverse]; exact hcs') _ hoR'.sq) ?_
    rintro re w14 hxn hre
    rw [hVr] at hre
    subst hre
    have hy1 := hy1.ext hxn
    have hmL := hmL.ext hxn
    have hoL := hoL.ext hxn
    have hxL := hxL.trans hxn
    simp only [↓vsd, vsn, gW, qd, qv, ev, pick, argE, zipE, ne_eq, eq_self, forall_const, implies_true, if_true, if_false, reduceIte, reduceCtorEq, Nat.reduceEqDiff, Nat.reduceAdd, Nat.reduceLT, ↓us_lFnLeads, r_lFnLeads]
    refine m_call (iTurnRow_ok (underL (roundsL n) cs) _) ?_
    rintro re w15 hxn hre
    rw [turnRV, if_pos hH.1] at hre
    subst hre
    have hy1 := hy1.ext hxn
    have hmL := hmL.ext hxn
    have hoL := hoL.ext hxn
    have hxL := hxL.trans hxn
    have hrl := rowsU_len l cs cs.length
    simp only [↓vsd, vsn, gW, qd, qv, ev, pick, argE, zipE, ne_eq, eq_self, forall_const, implies_true, if_true, if_false, reduceIte, reduceCtorEq, Nat.reduceEqDiff, Nat.reduceAdd, Nat.reduceLT, ↓us_lFnLeads, r_lFnLeads, hy1.sq.facts, hrl, hmL.facts, fMg, hoL.sq.facts]
    refine m_upto cs.length (fun i vs w' => vs = [.int .i64 i] ∧ Ext w15 w') ⟨rfl, Ext.refl _⟩ ?_
    rintro i vs w16 hi ⟨rfl, hx16⟩
    by_cases hlt : i < cs.length
    · have hltI : (i : Int) < cs.length := by omega
      have hltJ : ¬ (cs.length : Int) ≤ i := by omega
      have hqy := hy1.sq.ext hx16
      have hqx := hoL.sq.ext hx16
      have hg := rowsU_get l cs cs.length i hlt
      have hir : i < (rowsU l cs cs.length).length := by omega
      have hrow : IsRow (underL l (cs.take i)) := underL_row _ hO.2.1
      have hrl2 : (underL l (cs.take i)).length = n := by rw [underL_len]; exact hll2
      have hcc := hm.2.2.2 _ (getD_mem [] hlt)
      have hcl8 := hc8' _ (getD_mem [] hlt)
      have hap : aplV (underL l (cs.take i)) (cs.getD i []) = .tuple ⟨[S (underL l (cs.take (i + 1))), .bool true]⟩ := by
        rw [aplV, if_pos ⟨hrow, by rw [hrl2]; exact hcc⟩, underL_snoc _ _ _ hlt]
      by_cases hl2 : i + 1 < cs.length
      · have hl2I : (i : Int) + 1 < cs.length := by omega
        have hg2 := rowsU_get l cs cs.length (i + 1) hl2
        have hir2 : i + 1 < (rowsU l cs cs.length).length := by omega
        have hi1 : (i : Int) + 1 = ((i + 1 : Nat) : Int) := by omega
        rw [hi1] at hl2I
        simp only [↓vsd, vsn, gW, qd, qv, ev, pick, argE, zipE, ne_eq, eq_self, forall_const, implies_true, if_true, if_false, reduceIte, reduceCtorEq, Nat.reduceEqDiff, Nat.reduceAdd, Nat.reduceLT, ↓us_lFnLeads, r_lFnLeads, hltI, hltJ, hi1, hl2I, hqy.facts, hqx.facts, hrl, hqy.at1 [] hir, hqy.at1 [] hir2, hqx.at1 [] hlt, hg, hg2]
        refine ⟨by omega, inR_i64 (by omega), inR_i64 (by omega), by omega, by omega, m_call (iApply_ok _ _ hcl8 _) ?_⟩
        rintro re w17 hxn hre
        rw [hap] at hre
        subst hre
        simp only [↓vsd, vsn, gW, qd, qv, ev, pick, argE, zipE, ne_eq, eq_self, forall_const, implies_true, if_true, if_false, reduceIte, reduceCtorEq, Nat.reduceEqDiff, Nat.reduceAdd, Nat.reduceLT, ↓us_lFnLeads, r_lFnLeads]
        exact ⟨inR_i64 (by omega), UpTo.next hlt ⟨rfl, hx16.trans hxn⟩⟩
      · have hl2I : ¬ (i : Int) + 1 < cs.length := by omega
        have hend : underL l (cs.take (i + 1)) = timesL l (underL (roundsL n) cs) := by
          rw [show i + 1 = cs.length by omega, List.take_length, under_times cs hO.2.1, hll2]
        simp only [↓vsd, vsn, gW, qd, qv, ev, pick, argE, zipE, ne_eq, eq_self, forall_const, implies_true, if_true, if_false, reduceIte, reduceCtorEq, Nat.reduceEqDiff, Nat.reduceAdd, Nat.reduceLT, ↓us_lFnLeads, r_lFnLeads, hltI, hltJ, hl2I, hqy.facts, hqx.facts, hrl, hqy.at1 [] hir, hqx.at1 [] hlt, hg]
        refine ⟨by omega, inR_i64 (by omega), by omega, m_call (iApply_ok _ _ hcl8 _) ?_⟩
        rintro re w17 hxn hre
        rw [hap, hend] at hre
        subst hre
        simp only [↓vsd, vsn, gW, qd, qv, ev, pick, argE, zipE, ne_eq, eq_self, forall_const, implies_true, if_true, if_false, reduceIte, reduceCtorEq, Nat.reduceEqDiff, Nat.reduceAdd, Nat.reduceLT, ↓us_lFnLeads, r_lFnLeads]
        exact ⟨inR_i64 (by omega), UpTo.next hlt ⟨rfl, hx16.trans hxn⟩⟩
    · obtain rfl : i = cs.length := by omega
      have hltI : ¬ (cs.length : Int) < cs.length := by omega
      simp only [↓vsd, vsn, gW, qd, qv, ev, pick, argE, zipE, ne_eq, eq_self, forall_const, implies_true, if_true, if_false, reduceIte, reduceCtorEq, Nat.reduceEqDiff, Nat.reduceAdd, Nat.reduceLT, ↓us_lFnLeads, r_lFnLeads, hltI]
      have hxT := hxL.trans hx16
      refine m_call (sDrawCourseRows_ok u more hlen.2 _ (h'.ext hxT)) ?_
      rintro _ t1 hx1 ⟨nmA, stA, xA, csA, rfl, hoA, hnmA, hstA, hcsA, hcA8⟩
      have hxT1 : Ext w t1 := hxT.trans hx1
      simp only [↓vsd, vsn, gW, qd, qv, ev, pick, argE, zipE, ne_eq, eq_self, forall_const, implies_true, if_true, if_false, reduceIte, reduceCtorEq, Nat.reduceEqDiff, Nat.reduceAdd, Nat.reduceLT, ↓us_lFnLeads, r_lFnLeads]
      refine m_al ?_
      rintro ba t2 hba hblk2 hx2 hs2
      simp only [↓vsd, vsn, gW, qd, qv, ev, pick, argE, zipE, ne_eq, eq_self, forall_const, implies_true, if_true, if_false, reduceIte, reduceCtorEq, Nat.reduceEqDiff, Nat.reduceAdd, Nat.reduceLT, ↓us_lFnLeads, r_lFnLeads]
      refine m_st hblk2 rfl (Nat.le_refl 3) (fM_one nmA stA xA hoA.sq.one') ?_
      rintro t3 hblk3 hu3
      have hmL : Blk t3 ba (fM nmA stA xA) 41 := hblk3
      have hoL := (hoA.ext hx2).upd hu3 (hoA.away (by omega))
      have hxL : Ext w t3 := hu3.below (hxT1.trans hx2) (by have := hxT1.size; omega)
      have hnmA' : nmA.length ≤ 1048576 := by omega
      have hcA8' : ∀ c ∈ csA, c.length ≤ 1048576 := fun c hc => by have := hcA8 c hc; omega
      have hcsA' : csA.length ≤ 1000000000 := by omega
      obtain ⟨k, hk840, hk⟩ := ord_of nmA stA csA
      simp only [↓vsd, vsn, gW, qd, qv, ev, pick, argE, zipE, ne_eq, eq_self, forall_const, implies_true, if_true, if_false, reduceIte, reduceCtorEq, Nat.reduceEqDiff, Nat.reduceAdd, Nat.reduceLT, ↓us_lFnLeads, r_lFnLeads, hmL.facts, fMg]
      refine m_call (iCourseRows_ok nmA stA xA csA k hnmA' hcA8' hcsA' hk _ hoL.sq) ?_
      rintro _ t4 hxn ⟨y1, rfl, hy1⟩
      have hmL := hmL.ext hxn
      have hoL := hoL.ext hxn
      have hxL := hxL.trans hxn
      simp only [↓vsd, vsn, gW, qd, qv, ev, pick, argE, zipE, ne_eq, eq_self, forall_const, implies_true, if_true, if_false, reduceIte, reduceCtorEq, Nat.reduceEqDiff, Nat.reduceAdd, Nat.reduceLT, ↓us_lFnLeads, r_lFnLeads, hmL.facts, fMg]
      refine m_call (sCourseRows_ok nmA stA xA csA k hnmA' hcA8' hcsA' hk _ hoL.sq) ?_
      rintro _ t5 hxn ⟨y2, rfl, hy2⟩
      have hy1 := hy1.ext hxn
      have hmL := hmL.ext hxn
      have hoL := hoL.ext hxn
      have hxL := hxL.trans hxn
      simp only [↓vsd, vsn, gW, qd, qv, ev, pick, argE, zipE, ne_eq, eq_self, forall_const, implies_true, if_true, if_false, reduceIte, reduceCtorEq, Nat.reduceEqDiff, Nat.reduceAdd, Nat.reduceLT, ↓us_lFnLeads, r_lFnLeads, hmL.facts, fMg]
      refine m_call (iLeadsIn_ok nmA stA xA csA k hnmA' hcA8' hcsA' hk _ hoL.sq) ?_
      rintro _ t6 hxn rfl
      have hy1 := hy1.ext hxn
      have hy2 := hy2.ext hxn
      have hmL := hmL.ext hxn
      have hoL := hoL.ext hxn
      have hxL := hxL.trans hxn
      unfold liV
      simp only [↓vsd, vsn, gW, qd, qv, ev, pick, argE, zipE, ne_eq, eq_self, forall_const, implies_true, if_true, if_false, reduceIte, reduceCtorEq, Nat.reduceEqDiff, Nat.reduceAdd, Nat.reduceLT, ↓us_lFnLeads, r_lFnLeads, hmL.facts, fMg]
      refine m_call (sLeadsIn_ok nmA stA xA csA k hnmA' hcA8' hcsA' hk _ hoL.sq) ?_
      rintro _ t7 hxn rfl
      have hy1 := hy1.ext hxn
      have hy2 := hy2.ext hxn
      have hmL := hmL.ext hxn
      have hoL := hoL.ext hxn
      have hxL := hxL.trans hxn
      unfold liV
      have hcl1 : (crsV nmA stA csA k).length ≤ 1000 := by
        unfold crsV
        split
        · rename_i hh; rw [courseT_len]; have := hh.2; omega
        · simp
      simp only [↓vsd, vsn, gW, qd, qv, ev, pick, argE, zipE, ne_eq, eq_self, forall_const, implies_true, if_true, if_false, reduceIte, reduceCtorEq, Nat.reduceEqDiff, Nat.reduceAdd, Nat.reduceLT, ↓us_lFnLeads, r_lFnLeads, hmL.facts, fMg]
      refine m_call (lsameTexts_ok y1 y2 _ _ _ hy1.sq hy2.sq (by omega)) ?_
      rintro _ t8 hxn rfl
      have hxn : Ext t7 t8 := by first | exact hxn | exact ud hxn | exact ud (ud hxn)
      have hy1 := hy1.ext hxn
      have hmL := hmL.ext hxn
      have hoL := hoL.ext hxn
      have hxL := hxL.trans hxn
      by_cases hC : CrsOk nmA stA csA k
      · obtain ⟨na, rfl⟩ : ∃ na : Nat, stA = na := ⟨stA.toNat, by omega⟩
        have hCd := decide_eq_true hC
        have hMd := decide_eq_true hC.1
        have hM := hC.1
        have hOA := hk hM
        rw [Int.toNat_natCast] at hOA
        rw [crsV, if_pos hC, Int.toNat_natCast] at hy1
        have hln := courseT_len na csA k
        have hlI : ((courseT na csA k).length : Int) = (k : Int) * csA.length := by rw [hln, Int.natCast_mul]
        have h800 := hC.2
        by_cases h2 : 2 ≤ (courseT na csA k).length
        · have h2I : 1 < ((courseT na csA k).length : Int) := by omega
          simp only [↓vsd, vsn, gW, qd, qv, ev, pick, argE, zipE, ne_eq, eq_self, forall_const, implies_true, if_true, if_false, reduceIte, reduceCtorEq, Nat.reduceEqDiff, Nat.reduceAdd, Nat.reduceLT, ↓us_lFnLeads, r_lFnLeads, hCd, hMd, hM, hy1.sq.facts, h2I, hmL.facts, fMg, hoL.sq.facts]
          refine m_call (iAreNext_ok y1 _ (course_rows hC) h2 (course_next hM hOA) _ hy1.sq) ?_
          rintro _ t9 hxn rfl
          have hxn : Ext t8 t9 := by first | exact hxn | exact ud hxn | exact ud (ud hxn)
          have hy1 := hy1.ext hxn
          have hmL := hmL.ext hxn
          have hoL := hoL.ext hxn
          have hxL := hxL.trans hxn
          simp only [↓vsd, vsn, gW, qd, qv, ev, pick, argE, zipE, ne_eq, eq_self, forall_const, implies_true, if_true, if_false, reduceIte, reduceCtorEq, Nat.reduceEqDiff, Nat.reduceAdd, Nat.reduceLT, ↓us_lFnLeads, r_lFnLeads, hMd, hM, hy1.sq.facts, hmL.facts, fMg, hoL.sq.facts, hlI]
          exact ⟨by rw [← hlI]; exact inR_i64 (by omega), hxL⟩
        · have h2I : ¬ 1 < ((courseT na csA k).length : Int) := by omega
          simp only [↓vsd, vsn, gW, qd, qv, ev, pick, argE, zipE, ne_eq, eq_self, forall_const, implies_true, if_true, if_false, reduceIte, reduceCtorEq, Nat.reduceEqDiff, Nat.reduceAdd, Nat.reduceLT, ↓us_lFnLeads, r_lFnLeads, hCd, hMd, hM, hy1.sq.facts, h2I]
          exact hxL
      · have hCd := decide_eq_false hC
        simp only [↓vsd, vsn, gW, qd, qv, ev, pick, argE, zipE, ne_eq, eq_self, forall_const, implies_true, if_true, if_false, reduceIte, reduceCtorEq, Nat.reduceEqDiff, Nat.reduceAdd, Nat.reduceLT, ↓us_lFnLeads, r_lFnLeads, hCd]
        exact hxL
  · have hOd := decide_eq_false hO
    simp only [↓vsd, vsn, gW, qd, qv, ev, pick, argE, zipE, ne_eq, eq_self, forall_const, implies_true, if_true, if_false, reduceIte, reduceCtorEq, Nat.reduceEqDiff, Nat.reduceAdd, Nat.reduceLT, ↓us_lFnLeads, r_lFnLeads, hOd]
    have hxT := hxL
    refine m_call (sDrawCourseRows_ok u more hlen.2 _ (h'.ext hxT)) ?_
    rintro _ t1 hx1 ⟨nmA, stA, xA, csA, rfl, hoA, hnmA, hstA, hcsA, hcA8⟩
    have hxT1 : Ext w t1 := hxT.trans hx1
    simp only [↓vsd, vsn, gW, qd, qv, ev, pick, argE, zipE, ne_eq, eq_self, forall_const, implies_true, if_true, if_false, reduceIte, reduceCtorEq, Nat.reduceEqDiff, Nat.reduceAdd, Nat.reduceLT, ↓us_lFnLeads, r_lFnLeads]
    refine m_al ?_
    rintro ba t2 hba hblk2 hx2 hs2
    simp only [↓vsd, vsn, gW, qd, qv, ev, pick, argE, zipE, ne_eq, eq_self, forall_const, implies_true, if_true, if_false, reduceIte, reduceCtorEq, Nat.reduceEqDiff, Nat.reduceAdd, Nat.reduceLT, ↓us_lFnLeads, r_lFnLeads]
    refine m_st hblk2 rfl (Nat.le_refl 3) (fM_one nmA stA xA hoA.sq.one') ?_
    rintro t3 hblk3 hu3
    have hmL : Blk t3 ba (fM nmA stA xA) 41 := hblk3
    have hoL := (hoA.ext hx2).upd hu3 (hoA.away (by omega))
    have hxL : Ext w t3 := hu3.below (hxT1.trans hx2) (by have := hxT1.size; omega)
    have hnmA' : nmA.length ≤ 1048576 := by omega
    have hcA8' : ∀ c ∈ csA, c.length ≤ 1048576 := fun c hc => by have := hcA8 c hc; omega
    have hcsA' : csA.length ≤ 1000000000 := by omega
    obtain ⟨k, hk840, hk⟩ := ord_of nmA stA csA
    simp only [↓vsd, vsn, gW, qd, qv, ev, pick, argE, zipE, ne_eq, eq_self, forall_const, implies_true, if_true, if_false, reduceIte, reduceCtorEq, Nat.reduceEqDiff, Nat.reduceAdd, Nat.reduceLT, ↓us_lFnLeads, r_lFnLeads, hmL.facts, fMg]
    refine m_call (iCourseRows_ok nmA stA xA csA k hnmA' hcA8' hcsA' hk _ hoL.sq) ?_
    rintro _ t4 hxn ⟨y1, rfl, hy1⟩
    have hmL := hmL.ext hxn
    have hoL := hoL.ext hxn
    have hxL := hxL.trans hxn
    simp only [↓vsd, vsn, gW, qd, qv, ev, pick, argE, zipE, ne_eq, eq_self, forall_const, implies_true, if_true, if_false, reduceIte, reduceCtorEq, Nat.reduceEqDiff, Nat.reduceAdd, Nat.reduceLT, ↓us_lFnLeads, r_lFnLeads, hmL.facts, fMg]
    refine m_call (sCourseRows_ok nmA stA xA csA k hnmA' hcA8' hcsA' hk _ hoL.sq) ?_
    rintro _ t5 hxn ⟨y2, rfl, hy2⟩
    have hy1 := hy1.ext hxn
    have hmL := hmL.ext hxn
    have hoL := hoL.ext hxn
    have hxL := hxL.trans hxn
    simp only [↓vsd, vsn, gW, qd, qv, ev, pick, argE, zipE, ne_eq, eq_self, forall_const, implies_true, if_true, if_false, reduceIte, reduceCtorEq, Nat.reduceEqDiff, Nat.reduceAdd, Nat.reduceLT, ↓us_lFnLeads, r_lFnLeads, hmL.facts, fMg]
    refine m_call (iLeadsIn_ok nmA stA xA csA k hnmA' hcA8' hcsA' hk _ hoL.sq) ?_
    rintro _ t6 hxn rfl
    have hy1 := hy1.ext hxn
    have hy2 := hy2.ext hxn
    have hmL := hmL.ext hxn
    have hoL := hoL.ext hxn
    have hxL := hxL.trans hxn
    unfold liV
    simp only [↓vsd, vsn, gW, qd, qv, ev, pick, argE, zipE, ne_eq, eq_self, forall_const, implies_true, if_true, if_false, reduceIte, reduceCtorEq, Nat.reduceEqDiff, Nat.reduceAdd, Nat.reduceLT, ↓us_lFnLeads, r_lFnLeads, hmL.facts, fMg]
    refine m_call (sLeadsIn_ok nmA stA xA csA k hnmA' hcA8' hcsA' hk _ hoL.sq) ?_
    rintro _ t7 hxn rfl
    have hy1 := hy1.ext hxn
    have hy2 := hy2.ext hxn
    have hmL := hmL.ext hxn
    have hoL := hoL.ext hxn
    have hxL := hxL.trans hxn
    unfold liV
    have hcl1 : (crsV nmA stA csA k).length ≤ 1000 := by
      unfold crsV
      split
      · rename_i hh; rw [courseT_len]; have := hh.2; omega
      · simp
    simp only [↓vsd, vsn, gW, qd, qv, ev, pick, argE, zipE, ne_eq, eq_self, forall_const, implies_true, if_true, if_false, reduceIte, reduceCtorEq, Nat.reduceEqDiff, Nat.reduceAdd, Nat.reduceLT, ↓us_lFnLeads, r_lFnLeads, hmL.facts, fMg]
    refine m_call (lsameTexts_ok y1 y2 _ _ _ hy1.sq hy2.sq (by omega)) ?_
    rintro _ t8 hxn rfl
    have hxn : Ext t7 t8 := by first | exact hxn | exact ud hxn | exact ud (ud hxn)
    have hy1 := hy1.ext hxn
    have hmL := hmL.ext hxn
    have hoL := hoL.ext hxn
    have hxL := hxL.trans hxn
    by_cases hC : CrsOk nmA stA csA k
    · obtain ⟨na, rfl⟩ : ∃ na : Nat, stA = na := ⟨stA.toNat, by omega⟩
      have hCd := decide_eq_true hC
      have hMd := decide_eq_true hC.1
      have hM := hC.1
      have hOA := hk hM
      rw [Int.toNat_natCast] at hOA
      rw [crsV, if_pos hC, Int.toNat_natCast] at hy1
      have hln := courseT_len na csA k
      have hlI : ((courseT na csA k).length : Int) = (k : Int) * csA.length := by rw [hln, Int.natCast_mul]
      have h800 := hC.2
      by_cases h2 : 2 ≤ (courseT na csA k).length
      · have h2I : 1 < ((courseT na csA k).length : Int) := by omega
        simp only [↓vsd, vsn, gW, qd, qv, ev, pick, argE, zipE, ne_eq, eq_self, forall_const, implies_true, if_true, if_false, reduceIte, reduceCtorEq, Nat.reduceEqDiff, Nat.reduceAdd, Nat.reduceLT, ↓us_lFnLeads, r_lFnLeads, hCd, hMd, hM, hy1.sq.facts, h2I, hmL.facts, fMg, hoL.sq.facts]
        refine m_call (iAreNext_ok y1 _ (course_rows hC) h2 (course_next hM hOA) _ hy1.sq) ?_
        rintro _ t9 hxn rfl
        have hxn : Ext t8 t9 := by first | exact hxn | exact ud hxn | exact ud (ud hxn)
        have hy1 := hy1.ext hxn
        have hmL := hmL.ext hxn
        have hoL := hoL.ext hxn
        have hxL := hxL.trans hxn
        simp only [↓vsd, vsn, gW, qd, qv, ev, pick, argE, zipE, ne_eq, eq_self, forall_const, implies_true, if_true, if_false, reduceIte, reduceCtorEq, Nat.reduceEqDiff, Nat.reduceAdd, Nat.reduceLT, ↓us_lFnLeads, r_lFnLeads, hMd, hM, hy1.sq.facts, hmL.facts, fMg, hoL.sq.facts, hlI]
        exact ⟨by rw [← hlI]; exact inR_i64 (by omega), hxL⟩
      · have h2I : ¬ 1 < ((courseT na csA k).length : Int) := by omega
        simp only [↓vsd, vsn, gW, qd, qv, ev, pick, argE, zipE, ne_eq, eq_self, forall_const, implies_true, if_true, if_false, reduceIte, reduceCtorEq, Nat.reduceEqDiff, Nat.reduceAdd, Nat.reduceLT, ↓us_lFnLeads, r_lFnLeads, hCd, hMd, hM, hy1.sq.facts, h2I]
        exact hxL
    · have hCd := decide_eq_false hC
      simp only [↓vsd, vsn, gW, qd, qv, ev, pick, argE, zipE, ne_eq, eq_self, forall_const, implies_true, if_true, if_false, reduceIte, reduceCtorEq, Nat.reduceEqDiff, Nat.reduceAdd, Nat.reduceLT, ↓us_lFnLeads, r_lFnLeads, hCd]
      exact hxL
end Go.Proofs.Ytpnopboffalfnaa
