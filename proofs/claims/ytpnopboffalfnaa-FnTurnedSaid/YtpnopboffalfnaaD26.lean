/-
  The call of the law FnTurned.
  Conditions: none.
-/
import Derived.Test.YtpnopboffalfnaaD23
import Derived.Test.YtpnopboffalfnaaA33
import Derived.Test.YtpnopboffalfnaaA36
import Derived.Test.YtpnopboffalfnaaA39
set_option linter.unusedSimpArgs false
set_option linter.unusedVariables false
set_option linter.defProp false
namespace Go.Proofs.Ytpnopboffalfnaa
open Go Go.RowKit
section
variable (P : Program) (k : KT) (e : Env) (w : World)
abbrev b10_1 : X := (.cond (.t 51) (.seq (.reg [4] (.c (.q 4 [] (.mv (.c (.bool true)))) .nil)) .ret) .skip)
def t10_1 := b10_1
theorem u10_1 : vcK P t10_1 k e w = vcK P b10_1 k e w := rfl
abbrev b10_2 : X := (.cond (.t 150) (.seq (.reg [4] (.c (.q 4 [] (.mv (.c (.bool false)))) .nil)) .ret) .skip)
def t10_2 := b10_2
theorem u10_2 : vcK P t10_2 k e w = vcK P b10_2 k e w := rfl
abbrev b10_3 : X := (.cond (.t 177) (.seq (.reg [4] (.c (.q 4 [] (.mv (.c (.bool false)))) .nil)) .ret) .skip)
def t10_3 := b10_3
theorem u10_3 : vcK P t10_3 k e w = vcK P b10_3 k e w := rfl
abbrev b10_4 : X := (.seq (.reg [1, 5, 6, 7, 14, 17, 20, 177] (.c (.q 162 [] (.mv (.t 29))) (.c (.q 163 [] (.not (.t 162))) (.c (.q 164 [] (.mv (.t 163))) (.c (.q 165 [(164, false)] (.mv (.t 31))) (.c (.q 166 [(164, false)] (.not (.t 165))) (.c (.q 167 [] (.pick (.t 164) (.c (.bool true)) (.t 166))) (.c (.q 168 [] (.mv (.t 167))) (.c (.q 169 [(168, false)] (.mv (.t 28))) (.c (.q 170 [(168, false)] (.mv (.t 30))) (.c (.q 171 [(168, false)] (.bin .neq (.t 169) (.t 170))) (.c (.q 172 [] (.pick (.t 168) (.c (.bool true)) (.t 171))) (.c (.q 173 [] (.mv (.t 172))) (.c (.q 174 [(173, false)] (.mv (.t 28))) (.c (.q 175 [(173, false)] (.mv (.t 8))) (.c (.q 176 [(173, false)] (.bin .gtr (.t 174) (.t 175))) (.c (.q 177 [] (.pick (.t 173) (.c (.bool true)) (.t 176))) .nil))))))))))))))))) t10_3)
def t10_4 := b10_4
theorem u10_4 : vcK P t10_4 k e w = vcK P b10_4 k e w := rfl
abbrev b10_5 : X := (.seq (.reg [1, 5, 6, 7, 8, 14, 17, 20, 28, 29, 30, 31] (.c (.q 158 [] (.mv (.t 10))) (.c (.e (some 159) [] (.call false 104 [(.t 158), (.c (.bool false))])) (.c (.q 157 [] (.mv (.t 159))) (.c (.q 160 [] (.ext 0 (.t 157))) (.c (.q 161 [] (.ext 1 (.t 157))) (.c (.q 30 [] (.mv (.t 160))) (.c (.q 31 [] (.mv (.t 161))) .nil)))))))) t10_4)
def t10_5 := b10_5
theorem u10_5 : vcK P t10_5 k e w = vcK P b10_5 k e w := rfl
abbrev b10_6 : X := (.cond (.t 151) (.seq (.reg [1, 5, 6, 7, 8, 10, 14, 17, 20, 28, 29] (.c (.q 153 [] (.mv (.t 8))) (.c (.e (some 154) [] (.call false 104 [(.t 153), (.c (.bool false))])) (.c (.q 152 [] (.mv (.t 154))) (.c (.q 155 [] (.ext 0 (.t 152))) (.c (.q 156 [] (.ext 1 (.t 152))) (.c (.q 28 [] (.mv (.t 155))) (.c (.q 29 [] (.mv (.t 156))) .nil)))))))) t10_5) .skip)
def t10_6 := b10_6
theorem u10_6 : vcK P t10_6 k e w = vcK P b10_6 k e w := rfl
abbrev b10_7 : X := (.cond (.t 213) (.seq (.reg [4] (.c (.q 4 [] (.mv (.c (.bool false)))) .nil)) .ret) .skip)
def t10_7 := b10_7
theorem u10_7 : vcK P t10_7 k e w = vcK P b10_7 k e w := rfl
abbrev b10_8 : X := (.seq (.reg [1, 5, 6, 7, 213] (.c (.q 194 [] (.mv (.t 33))) (.c (.q 195 [] (.not (.t 194))) (.c (.q 196 [] (.mv (.t 195))) (.c (.q 197 [(196, false)] (.mv (.t 35))) (.c (.q 198 [(196, false)] (.not (.t 197))) (.c (.q 199 [] (.pick (.t 196) (.c (.bool true)) (.t 198))) (.c (.q 200 [] (.mv (.t 199))) (.c (.q 201 [(200, false)] (.mv (.t 37))) (.c (.q 202 [(200, false)] (.not (.t 201))) (.c (.q 203 [] (.pick (.t 200) (.c (.bool true)) (.t 202))) (.c (.q 204 [] (.mv (.t 203))) (.c (.q 205 [(204, false)] (.mv (.t 32))) (.c (.q 206 [(204, false)] (.mv (.t 34))) (.c (.q 207 [(204, false)] (.bin .neq (.t 205) (.t 206))) (.c (.q 208 [] (.pick (.t 204) (.c (.bool true)) (.t 207))) (.c (.q 209 [] (.mv (.t 208))) (.c (.q 210 [(209, false)] (.mv (.t 36))) (.c (.q 211 [(209, false)] (.mv (.t 14))) (.c (.q 212 [(209, false)] (.bin .neq (.t 210) (.t 211))) (.c (.q 213 [] (.pick (.t 209) (.c (.bool true)) (.t 212))) .nil))))))))))))))))))))) t10_7)
def t10_8 := b10_8
theorem u10_8 : vcK P t10_8 k e w = vcK P b10_8 k e w := rfl
abbrev b10_9 : X := (.seq (.reg [1, 5, 6, 7, 14, 32, 33, 34, 35, 36, 37] (.c (.q 190 [] (.mv (.t 20))) (.c (.e (some 191) [] (.call false 30 [(.t 190)])) (.c (.q 189 [] (.mv (.t 191))) (.c (.q 192 [] (.ext 0 (.t 189))) (.c (.q 193 [] (.ext 1 (.t 189))) (.c (.q 36 [] (.mv (.t 192))) (.c (.q 37 [] (.mv (.t 193))) .nil)))))))) t10_8)
def t10_9 := b10_9
theorem u10_9 : vcK P t10_9 k e w = vcK P b10_9 k e w := rfl
abbrev b10_10 : X := (.seq (.reg [1, 5, 6, 7, 14, 20, 32, 33, 34, 35] (.c (.q 185 [] (.mv (.t 14))) (.c (.e (some 186) [] (.call false 104 [(.t 185), (.c (.bool true))])) (.c (.q 184 [] (.mv (.t 186))) (.c (.q 187 [] (.ext 0 (.t 184))) (.c (.q 188 [] (.ext 1 (.t 184))) (.c (.q 34 [] (.mv (.t 187))) (.c (.q 35 [] (.mv (.t 188))) .nil)))))))) t10_9)
def t10_10 := b10_10
theorem u10_10 : vcK P t10_10 k e w = vcK P b10_10 k e w := rfl
abbrev b10_11 : X := (.cond (.t 178) (.seq (.reg [1, 5, 6, 7, 14, 20, 32, 33] (.c (.q 180 [] (.mv (.t 20))) (.c (.e (some 181) [] (.call false 104 [(.t 180), (.c (.bool true))])) (.c (.q 179 [] (.mv (.t 181))) (.c (.q 182 [] (.ext 0 (.t 179))) (.c (.q 183 [] (.ext 1 (.t 179))) (.c (.q 32 [] (.mv (.t 182))) (.c (.q 33 [] (.mv (.t 183))) .nil)))))))) t10_10) .skip)
def t10_11 := b10_11
theorem u10_11 : vcK P t10_11 k e w = vcK P b10_11 k e w := rfl
abbrev b10_12 : X := (.cond (.t 235) (.seq (.reg [4] (.c (.q 4 [] (.mv (.c (.bool false)))) .nil)) .ret) .skip)
def t10_12 := b10_12
theorem u10_12 : vcK P t10_12 k e w = vcK P b10_12 k e w := rfl
abbrev b10_13 : X := (.cond (.t 237) (.seq (.reg [4] (.c (.q 4 [] (.mv (.c (.bool true)))) .nil)) .ret) .skip)
def t10_13 := b10_13
theorem u10_13 : vcK P t10_13 k e w = vcK P b10_13 k e w := rfl
abbrev b10_14 : X := (.seq (.reg [4] (.c (.q 255 [] (.mv (.t 43))) (.c (.q 256 [] (.mv (.t 255))) (.c (.q 257 [(256, true)] (.mv (.t 45))) (.c (.q 258 [] (.pick (.t 256) (.t 257) (.c (.bool false)))) (.c (.q 259 [] (.mv (.t 258))) (.c (.q 260 [(259, true)] (.mv (.t 44))) (.c (.q 261 [(259, true)] (.mv (.t 38))) (.c (.q 262 [(259, true)] (.beq false (.t 260) (.t 261))) (.c (.q 263 [] (.pick (.t 259) (.t 262) (.c (.bool false)))) (.c (.q 4 [] (.mv (.t 263))) .nil))))))))))) .ret)
def t10_14 := b10_14
theorem u10_14 : vcK P t10_14 k e w = vcK P b10_14 k e w := rfl
abbrev b10_15 : X := (.seq (.reg [38, 43, 44, 45] (.c (.q 249 [] (.lda 3 (.t 5))) (.c (.q 250 [] (.lda 2 (.t 6))) (.c (.q 251 [] (.mv (.t 42))) (.c (.e (some 252) [] (.call false 27 [(.t 249), (.t 250), (.t 251)])) (.c (.q 248 [] (.mv (.t 252))) (.c (.q 253 [] (.ext 0 (.t 248))) (.c (.q 254 [] (.ext 1 (.t 248))) (.c (.q 44 [] (.mv (.t 253))) (.c (.q 45 [] (.mv (.t 254))) .nil)))))))))) t10_14)
def t10_15 := b10_15
theorem u10_15 : vcK P t10_15 k e w = vcK P b10_15 k e w := rfl
abbrev b10_16 : X := (.seq (.reg [5, 6, 38, 42, 43] (.c (.q 239 [] (.mv (.t 7))) (.c (.q 240 [] (.mv (.t 1))) (.c (.e (some 241) [] (.call false 110 [(.t 240)])) (.c (.q 242 [] (.mv (.t 7))) (.c (.q 243 [] (.len (.t 242))) (.c (.q 244 [] (.bin .rem (.t 241) (.t 243))) (.c (.e (some 245) [] (.call false 101 [(.t 239), (.t 244)])) (.c (.q 238 [] (.mv (.t 245))) (.c (.q 246 [] (.ext 0 (.t 238))) (.c (.q 247 [] (.ext 1 (.t 238))) (.c (.q 42 [] (.mv (.t 246))) (.c (.q 43 [] (.mv (.t 247))) .nil))))))))))))) t10_15)
def t10_16 := b10_16
theorem u10_16 : vcK P t10_16 k e w = vcK P b10_16 k e w := rfl
abbrev b10_17 : X := (.seq (.seq (.reg [1, 5, 6, 7, 38, 237] (.c (.q 236 [] (.mv (.t 39))) (.c (.q 237 [] (.not (.t 236))) .nil))) t10_13) t10_16)
def t10_17 := b10_17
theorem u10_17 : vcK P t10_17 k e w = vcK P b10_17 k e w := rfl
abbrev b10_18 : X := (.seq (.seq (.reg [1, 5, 6, 7, 38, 39, 235] (.c (.q 228 [] (.mv (.t 39))) (.c (.q 229 [] (.mv (.t 41))) (.c (.q 230 [] (.beq true (.t 228) (.t 229))) (.c (.q 231 [] (.mv (.t 230))) (.c (.q 232 [(231, false)] (.mv (.t 38))) (.c (.q 233 [(231, false)] (.mv (.t 40))) (.c (.q 234 [(231, false)] (.beq true (.t 232) (.t 233))) (.c (.q 235 [] (.pick (.t 231) (.c (.bool true)) (.t 234))) .nil))))))))) t10_12) t10_17)
def t10_18 := b10_18
theorem u10_18 : vcK P t10_18 k e w = vcK P b10_18 k e w := rfl
abbrev b10_19 : X := (.seq (.reg [1, 5, 6, 7, 38, 39, 40, 41] (.c (.q 222 [] (.lda 3 (.t 5))) (.c (.q 223 [] (.lda 2 (.t 6))) (.c (.q 224 [] (.mv (.t 7))) (.c (.e (some 225) [] (.call false 28 [(.t 222), (.t 223), (.t 224)])) (.c (.q 221 [] (.mv (.t 225))) (.c (.q 226 [] (.ext 0 (.t 221))) (.c (.q 227 [] (.ext 1 (.t 221))) (.c (.q 40 [] (.mv (.t 226))) (.c (.q 41 [] (.mv (.t 227))) .nil)))))))))) t10_18)
def t10_19 := b10_19
theorem u10_19 : vcK P t10_19 k e w = vcK P b10_19 k e w := rfl
abbrev b10_20 : X := (.seq (.reg [1, 5, 6, 7, 38, 39] (.c (.q 215 [] (.lda 3 (.t 5))) (.c (.q 216 [] (.lda 2 (.t 6))) (.c (.q 217 [] (.mv (.t 7))) (.c (.e (some 218) [] (.call false 27 [(.t 215), (.t 216), (.t 217)])) (.c (.q 214 [] (.mv (.t 218))) (.c (.q 219 [] (.ext 0 (.t 214))) (.c (.q 220 [] (.ext 1 (.t 214))) (.c (.q 38 [] (.mv (.t 219))) (.c (.q 39 [] (.mv (.t 220))) .nil)))))))))) t10_19)
def t10_20 := b10_20
theorem u10_20 : vcK P t10_20 k e w = vcK P b10_20 k e w := rfl
abbrev b10_21 : X := (.seq (.seq (.reg [1, 5, 6, 7, 14, 20, 178] (.c (.q 178 [] (.mv (.t 17))) .nil)) t10_11) t10_20)
def t10_21 := b10_21
theorem u10_21 : vcK P t10_21 k e w = vcK P b10_21 k e w := rfl
abbrev b10_22 : X := (.seq (.seq (.reg [1, 5, 6, 7, 8, 10, 14, 17, 20, 151] (.c (.q 151 [] (.mv (.t 11))) .nil)) t10_6) t10_21)
def t10_22 := b10_22
theorem u10_22 : vcK P t10_22 k e w = vcK P b10_22 k e w := rfl
abbrev b10_23 : X := (.seq (.seq (.reg [1, 5, 6, 7, 8, 10, 11, 14, 17, 20, 150] (.c (.q 112 [] (.mv (.t 11))) (.c (.q 113 [] (.mv (.t 13))) (.c (.q 114 [] (.beq true (.t 112) (.t 113))) (.c (.q 115 [] (.mv (.t 114))) (.c (.q 116 [(115, false)] (.mv (.t 10))) (.c (.q 117 [(115, false)] (.mv (.t 12))) (.c (.q 118 [(115, false)] (.bin .neq (.t 116) (.t 117))) (.c (.q 119 [] (.pick (.t 115) (.c (.bool true)) (.t 118))) (.c (.q 120 [] (.mv (.t 119))) (.c (.q 121 [(120, false)] (.mv (.t 17))) (.c (.q 122 [(120, false)] (.mv (.t 19))) (.c (.q 123 [(120, false)] (.beq true (.t 121) (.t 122))) (.c (.q 124 [] (.pick (.t 120) (.c (.bool true)) (.t 123))) (.c (.q 125 [] (.mv (.t 124))) (.c (.q 126 [(125, false)] (.mv (.t 16))) (.c (.q 127 [(125, false)] (.mv (.t 18))) (.c (.q 128 [(125, false)] (.bin .neq (.t 126) (.t 127))) (.c (.q 129 [] (.pick (.t 125) (.c (.bool true)) (.t 128))) (.c (.q 130 [] (.mv (.t 129))) (.c (.q 131 [(130, false)] (.mv (.t 21))) (.c (.q 132 [(130, false)] (.mv (.t 23))) (.c (.q 133 [(130, false)] (.beq true (.t 131) (.t 132))) (.c (.q 134 [] (.pick (.t 130) (.c (.bool true)) (.t 133))) (.c (.q 135 [] (.mv (.t 134))) (.c (.q 136 [(135, false)] (.mv (.t 20))) (.c (.q 137 [(135, false)] (.mv (.t 22))) (.c (.q 138 [(135, false)] (.bin .neq (.t 136) (.t 137))) (.c (.q 139 [] (.pick (.t 135) (.c (.bool true)) (.t 138))) (.c (.q 140 [] (.mv (.t 139))) (.c (.q 141 [(140, false)] (.mv (.t 25))) (.c (.q 142 [(140, false)] (.mv (.t 27))) (.c (.q 143 [(140, false)] (.beq true (.t 141) (.t 142))) (.c (.q 144 [] (.pick (.t 140) (.c (.bool true)) (.t 143))) (.c (.q 145 [] (.mv (.t 144))) (.c (.q 146 [(145, false)] (.mv (.t 24))) (.c (.q 147 [(145, false)] (.mv (.t 26))) (.c (.e (some 148) [(145, false)] (.call false 109 [(.t 146), (.t 147)])) (.c (.q 149 [(145, false)] (.not (.t 148))) (.c (.q 150 [] (.pick (.t 145) (.c (.bool true)) (.t 149))) .nil)))))))))))))))))))))))))))))))))))))))) t10_2) t10_22)
def t10_23 := b10_23
theorem u10_23 : vcK P t10_23 k e w = vcK P b10_23 k e w := rfl
abbrev b10_24 : X := (.seq (.reg [1, 5, 6, 7, 8, 10, 11, 12, 13, 14, 16, 17, 18, 19, 20, 21, 22, 23, 24, 25, 26, 27] (.c (.q 108 [] (.mv (.t 14))) (.c (.e (some 109) [] (.call false 108 [(.t 108)])) (.c (.q 107 [] (.mv (.t 109))) (.c (.q 110 [] (.ext 0 (.t 107))) (.c (.q 111 [] (.ext 1 (.t 107))) (.c (.q 26 [] (.mv (.t 110))) (.c (.q 27 [] (.mv (.t 111))) .nil)))))))) t10_23)
def t10_24 := b10_24
theorem u10_24 : vcK P t10_24 k e w = vcK P b10_24 k e w := rfl
abbrev b10_25 : X := (.seq (.reg [1, 5, 6, 7, 8, 10, 11, 12, 13, 14, 16, 17, 18, 19, 20, 21, 22, 23, 24, 25] (.c (.q 103 [] (.mv (.t 14))) (.c (.e (some 104) [] (.call false 107 [(.t 103)])) (.c (.q 102 [] (.mv (.t 104))) (.c (.q 105 [] (.ext 0 (.t 102))) (.c (.q 106 [] (.ext 1 (.t 102))) (.c (.q 24 [] (.mv (.t 105))) (.c (.q 25 [] (.mv (.t 106))) .nil)))))))) t10_24)
def t10_25 := b10_25
theorem u10_25 : vcK P t10_25 k e w = vcK P b10_25 k e w := rfl
abbrev b10_26 : X := (.seq (.reg [1, 5, 6, 7, 8, 10, 11, 12, 13, 14, 16, 17, 18, 19, 20, 21, 22, 23] (.c (.q 98 [] (.mv (.t 14))) (.c (.e (some 99) [] (.call false 106 [(.t 98)])) (.c (.q 97 [] (.mv (.t 99))) (.c (.q 100 [] (.ext 0 (.t 97))) (.c (.q 101 [] (.ext 1 (.t 97))) (.c (.q 22 [] (.mv (.t 100))) (.c (.q 23 [] (.mv (.t 101))) .nil)))))))) t10_25)
def t10_26 := b10_26
theorem u10_26 : vcK P t10_26 k e w = vcK P b10_26 k e w := rfl
abbrev b10_27 : X := (.seq (.reg [1, 5, 6, 7, 8, 10, 11, 12, 13, 14, 16, 17, 18, 19, 20, 21] (.c (.q 93 [] (.mv (.t 14))) (.c (.e (some 94) [] (.call false 30 [(.t 93)])) (.c (.q 92 [] (.mv (.t 94))) (.c (.q 95 [] (.ext 0 (.t 92))) (.c (.q 96 [] (.ext 1 (.t 92))) (.c (.q 20 [] (.mv (.t 95))) (.c (.q 21 [] (.mv (.t 96))) .nil)))))))) t10_26)
def t10_27 := b10_27
theorem u10_27 : vcK P t10_27 k e w = vcK P b10_27 k e w := rfl
abbrev b10_28 : X := (.seq (.reg [1, 5, 6, 7, 8, 10, 11, 12, 13, 14, 16, 17, 18, 19] (.c (.q 87 [] (.mv (.t 14))) (.c (.q 88 [] (.mv (.t 15))) (.c (.e (some 89) [] (.call false 105 [(.t 87), (.t 88)])) (.c (.q 86 [] (.mv (.t 89))) (.c (.q 90 [] (.ext 0 (.t 86))) (.c (.q 91 [] (.ext 1 (.t 86))) (.c (.q 18 [] (.mv (.t 90))) (.c (.q 19 [] (.mv (.t 91))) .nil))))))))) t10_27)
def t10_28 := b10_28
theorem u10_28 : vcK P t10_28 k e w = vcK P b10_28 k e w := rfl
abbrev b10_29 : X := (.seq (.reg [1, 5, 6, 7, 8, 10, 11, 12, 13, 14, 15, 16, 17] (.c (.q 81 [] (.mv (.t 14))) (.c (.q 82 [] (.mv (.t 15))) (.c (.e (some 83) [] (.call false 104 [(.t 81), (.t 82)])) (.c (.q 80 [] (.mv (.t 83))) (.c (.q 84 [] (.ext 0 (.t 80))) (.c (.q 85 [] (.ext 1 (.t 80))) (.c (.q 16 [] (.mv (.t 84))) (.c (.q 17 [] (.mv (.t 85))) .nil))))))))) t10_28)
def t10_29 := b10_29
theorem u10_29 : vcK P t10_29 k e w = vcK P b10_29 k e w := rfl
abbrev b10_30 : X := (.seq (.reg [1, 5, 6, 7, 8, 10, 11, 12, 13, 14, 15] (.c (.q 76 [] (.mv (.t 1))) (.c (.e (some 77) [] (.call false 103 [(.t 76)])) (.c (.q 75 [] (.mv (.t 77))) (.c (.q 78 [] (.ext 0 (.t 75))) (.c (.q 79 [] (.ext 1 (.t 75))) (.c (.q 14 [] (.mv (.t 78))) (.c (.q 15 [] (.mv (.t 79))) .nil)))))))) t10_29)
def t10_30 := b10_30
theorem u10_30 : vcK P t10_30 k e w = vcK P b10_30 k e w := rfl
abbrev b10_31 : X := (.seq (.reg [1, 5, 6, 7, 8, 10, 11, 12, 13] (.c (.q 70 [] (.mv (.t 8))) (.c (.q 71 [] (.mv (.t 9))) (.c (.e (some 72) [] (.call false 102 [(.t 70), (.t 71)])) (.c (.q 69 [] (.mv (.t 72))) (.c (.q 73 [] (.ext 0 (.t 69))) (.c (.q 74 [] (.ext 1 (.t 69))) (.c (.q 12 [] (.mv (.t 73))) (.c (.q 13 [] (.mv (.t 74))) .nil))))))))) t10_30)
def t10_31 := b10_31
theorem u10_31 : vcK P t10_31 k e w = vcK P b10_31 k e w := rfl
abbrev b10_32 : X := (.seq (.reg [1, 5, 6, 7, 8, 9, 10, 11] (.c (.q 64 [] (.mv (.t 8))) (.c (.q 65 [] (.mv (.t 9))) (.c (.e (some 66) [] (.call false 101 [(.t 64), (.t 65)])) (.c (.q 63 [] (.mv (.t 66))) (.c (.q 67 [] (.ext 0 (.t 63))) (.c (.q 68 [] (.ext 1 (.t 63))) (.c (.q 10 [] (.mv (.t 67))) (.c (.q 11 [] (.mv (.t 68))) .nil))))))))) t10_31)
def t10_32 := b10_32
theorem u10_32 : vcK P t10_32 k e w = vcK P b10_32 k e w := rfl
abbrev b10_33 : X := (.seq (.reg [1, 5, 6, 7, 8, 9] (.c (.q 59 [] (.mv (.t 1))) (.c (.e (some 60) [] (.call false 100 [(.t 59)])) (.c (.q 58 [] (.mv (.t 60))) (.c (.q 61 [] (.ext 0 (.t 58))) (.c (.q 62 [] (.ext 1 (.t 58))) (.c (.q 8 [] (.mv (.t 61))) (.c (.q 9 [] (.mv (.t 62))) .nil)))))))) t10_32)
def t10_33 := b10_33
theorem u10_33 : vcK P t10_33 k e w = vcK P b10_33 k e w := rfl
abbrev b10_34 : X := (.seq (.reg [1, 5, 6, 7] (.c (.q 53 [] (.mv (.t 0))) (.c (.e (some 54) [] (.call false 26 [(.t 53)])) (.c (.q 52 [] (.mv (.t 54))) (.c (.q 55 [] (.ext 0 (.t 52))) (.c (.q 56 [] (.ext 1 (.t 52))) (.c (.q 57 [] (.ext 2 (.t 52))) (.c (.e (some 5) [] (.al 41 [(S []), (.int .i64 0), (.slice none 0 0)])) (.c (.e (some 6) [] (.al 32 [(S []), (S [])])) (.c (.e none [] (.st 3 (.t 5) (.t 55))) (.c (.e none [] (.st 2 (.t 6) (.t 56))) (.c (.q 7 [] (.mv (.t 57))) .nil)))))))))))) t10_33)
def t10_34 := b10_34
theorem u10_34 : vcK P t10_34 k e w = vcK P b10_34 k e w := rfl
abbrev b10_35 : X := (.seq (.seq (.reg [0, 1, 51] (.c (.q 46 [] (.mv (.t 0))) (.c (.q 47 [] (.lens (.t 46))) (.c (.q 48 [] (.mv (.t 1))) (.c (.q 49 [] (.lens (.t 48))) (.c (.q 50 [] (.bin .add (.t 47) (.t 49))) (.c (.q 51 [] (.bin .gtr (.t 50) (.c (.int .i64 1048576)))) .nil))))))) t10_1) t10_34)
def t10_35 := b10_35
theorem u10_35 : vcK P t10_35 k e w = vcK P b10_35 k e w := rfl
abbrev b10_0 : X := (.seq (.reg [0, 1] (.c (.q 4 [] (.mv (.c (.bool false)))) .nil)) t10_35)
def x_lFnTurned := b10_0
theorem u10_0 : vcK P x_lFnTurned k e w = vcK P b10_0 k e w := rfl
def r_lFnTurned : List XO := [(.mv (.t 4))]
theorem c_lFnTurned : convF Try.prog [169, 170, 207, 208, 210, 227, 232, 233, 255, 259, 268, 269, 270, 280, 281, 296, 299, 306, 307, 309] Try.f10 [([0, 1], []), ([0, 1, 51], []), ([4], []), ([1, 5, 6, 7], []), ([1, 5, 6, 7, 8, 9], []), ([1, 5, 6, 7, 8, 9, 10, 11], []), ([1, 5, 6, 7, 8, 10, 11, 12, 13], []), ([1, 5, 6, 7, 8, 10, 11, 12, 13, 14, 15], []), ([1, 5, 6, 7, 8, 10, 11, 12, 13, 14, 15, 16, 17], []), ([1, 5, 6, 7, 8, 10, 11, 12, 13, 14, 16, 17, 18, 19], []), ([1, 5, 6, 7, 8, 10, 11, 12, 13, 14, 16, 17, 18, 19, 20, 21], []), ([1, 5, 6, 7, 8, 10, 11, 12, 13, 14, 16, 17, 18, 19, 20, 21, 22, 23], []), ([1, 5, 6, 7, 8, 10, 11, 12, 13, 14, 16, 17, 18, 19, 20, 21, 22, 23, 24, 25], []), ([1, 5, 6, 7, 8, 10, 11, 12, 13, 14, 16, 17, 18, 19, 20, 21, 22, 23, 24, 25, 26, 27], []), ([1, 5, 6, 7, 8, 10, 11, 14, 17, 20, 150], []), ([4], []), ([1, 5, 6, 7, 8, 10, 14, 17, 20, 151], []), ([1, 5, 6, 7, 8, 10, 14, 17, 20, 28, 29], []), ([1, 5, 6, 7, 8, 14, 17, 20, 28, 29, 30, 31], []), ([1, 5, 6, 7, 14, 17, 20, 177], []), ([4], []), ([1, 5, 6, 7, 14, 20, 178], []), ([1, 5, 6, 7, 14, 20, 32, 33], []), ([1, 5, 6, 7, 14, 20, 32, 33, 34, 35], []), ([1, 5, 6, 7, 14, 32, 33, 34, 35, 36, 37], []), ([1, 5, 6, 7, 213], []), ([4], []), ([1, 5, 6, 7, 38, 39], []), ([1, 5, 6, 7, 38, 39, 40, 41], []), ([1, 5, 6, 7, 38, 39, 235], []), ([4], []), ([1, 5, 6, 7, 38, 237], []), ([4], []), ([5, 6, 38, 42, 43], []), ([38, 43, 44, 45], []), ([4], [])] = some (x_lFnTurned, r_lFnTurned) := by kernel_rfl
def us_lFnTurned := aI @u10_0 (aI @u10_1 (aI @u10_2 (aI @u10_3 (aI @u10_4 (aI @u10_5 (aI @u10_6 (aI @u10_7 (aI @u10_8 (aI @u10_9 (aI @u10_10 (aI @u10_11 (aI @u10_12 (aI @u10_13 (aI @u10_14 (aI @u10_15 (aI @u10_16 (aI @u10_17 (aI @u10_18 (aI @u10_19 (aI @u10_20 (aI @u10_21 (aI @u10_22 (aI @u10_23 (aI @u10_24 (aI @u10_25 (aI @u10_26 (aI @u10_27 (aI @u10_28 (aI @u10_29 (aI @u10_30 (aI @u10_31 (aI @u10_32 (aI @u10_33 (aI @u10_34 @u10_35))))))))))))))))))))))))))))))))))
end

theorem sDrawTurnTouch_ok (v : Value) (code : List UInt8) (hl : code.length ≤ 1048576) (w : World) (h : Sq fU 1 w v code) : Fn 100 [v] w (fun r _ => ∃ x n, r = .tuple ⟨[S x, .int .i64 n]⟩ ∧ x.length ≤ 61) := by
  (refine callsV_of mix Try.func100 c_sDrawTurnTouch ?_; simp only [↓vsd, vsn, gW, qd, qv, ev, pick, argE, zipE, ne_eq, eq_self, forall_const, implies_true, if_true, if_false, reduceIte, reduceCtorEq, Nat.reduceEqDiff, Nat.reduceAdd, Nat.reduceLT, ↓us_sDrawTurnTouch, r_sDrawTurnTouch])
  simp only [↓vsd, vsn, gW, qd, qv, ev, pick, argE, zipE, ne_eq, eq_self, forall_const, implies_true, if_true, if_false, reduceIte, reduceCtorEq, Nat.reduceEqDiff, Nat.reduceAdd, Nat.reduceLT, ↓us_sDrawTurnTouch, r_sDrawTurnTouch, h.facts]
  refine m_al ?_
  rintro b w1 hb hblk hx1 hs1
  have hc := Cur.new h hl hb hblk hx1
  simp only [↓vsd, vsn, gW, qd, qv, ev, pick, argE, zipE, ne_eq, eq_self, forall_const, implies_true, if_true, if_false, reduceIte, reduceCtorEq, Nat.reduceEqDiff, Nat.reduceAdd, Nat.reduceLT, ↓us_sDrawTurnTouch, r_sDrawTurnTouch]
  refine m_callw (.inl rfl) (sl1Cur_anyTouch_ok w b _ w1 (by omega) hc) ?_
  rintro _ w2 ⟨hc2, hg2, x, rfl, hx⟩
  simp only [↓vsd, vsn, gW, qd, qv, ev, pick, argE, zipE, ne_eq, eq_self, forall_const, implies_true, if_true, if_false, reduceIte, reduceCtorEq, Nat.reduceEqDiff, Nat.reduceAdd, Nat.reduceLT, ↓us_sDrawTurnTouch, r_sDrawTurnTouch]
  refine ⟨inR_i64 (by omega), m_callw (.inl rfl) (sl1Cur_pick_ok w b _ _ (by omega) _ (by omega) hc2) ?_⟩
  rintro _ w3 ⟨hc3, hg3, k, rfl, hk⟩
  simp only [↓vsd, vsn, gW, qd, qv, ev, pick, argE, zipE, ne_eq, eq_self, forall_const, implies_true, if_true, if_false, reduceIte, reduceCtorEq, Nat.reduceEqDiff, Nat.reduceAdd, Nat.reduceLT, ↓us_sDrawTurnTouch, r_sDrawTurnTouch]
  exact ⟨inR_i64 (by omega), hc3.base, _, _, rfl, hx⟩
theorem sDrawLeastTurn_ok (v : Value) (code : List UInt8) (hl : code.length ≤ 1048576) (w : World) (h : Sq fU 1 w v code) : Fn 103 [v] w (fun r _ => ∃ x n, r = .tuple ⟨[S x, .bool n]⟩ ∧ x.length ≤ 61) := by
  (refine callsV_of mix Try.func103 c_sDrawLeastTurn ?_; simp only [↓vsd, vsn, gW, qd, qv, ev, pick, argE, zipE, ne_eq, eq_self, forall_const, implies_true, if_true, if_false, reduceIte, reduceCtorEq, Nat.reduceEqDiff, Nat.reduceAdd, Nat.reduceLT, ↓us_sDrawLeastTurn, r_sDrawLeastTurn])
  simp only [↓vsd, vsn, gW, qd, qv, ev, pick, argE, zipE, ne_eq, eq_self, forall_const, implies_true, if_true, if_false, reduceIte, reduceCtorEq, Nat.reduceEqDiff, Nat.reduceAdd, Nat.reduceLT, ↓us_sDrawLeastTurn, r_sDrawLeastTurn, h.facts]
  refine m_al ?_
  rintro b w1 hb hblk hx1 hs1
  have hc := Cur.new h hl hb hblk hx1
  simp only [↓vsd, vsn, gW, qd, qv, ev, pick, argE, zipE, ne_eq, eq_self, forall_const, implies_true, if_true, if_false, reduceIte, reduceCtorEq, Nat.reduceEqDiff, Nat.reduceAdd, Nat.reduceLT, ↓us_sDrawLeastTurn, r_sDrawLeastTurn]
  refine m_callw (.inl rfl) (sl1Cur_anyTouch_ok w b _ w1 (by omega) hc) ?_
  rintro _ w2 ⟨hc2, hg2, x, rfl, hx⟩
  simp only [↓vsd, vsn, gW, qd, qv, ev, pick, argE, zipE, ne_eq, eq_self, forall_const, implies_true, if_true, if_false, reduceIte, reduceCtorEq, Nat.reduceEqDiff, Nat.reduceAdd, Nat.reduceLT, ↓us_sDrawLeastTurn, r_sDrawLeastTurn]
  refine m_callw (.inl rfl) (sl1Cur_one_ok w b _ 2 (by omega) _ (by omega) hc2) ?_
  rintro _ w3 ⟨hc3, hg3, k, rfl⟩
  simp only [↓vsd, vsn, gW, qd, qv, ev, pick, argE, zipE, ne_eq, eq_self, forall_const, implies_true, if_true, if_false, reduceIte, reduceCtorEq, Nat.reduceEqDiff, Nat.reduceAdd, Nat.reduceLT, ↓us_sDrawLeastTurn, r_sDrawLeastTurn]
  exact ⟨hc3.base, _, _, rfl, hx⟩
def rndC (nm : List UInt8) (st : Int) (cs : List (List UInt8)) (b s t : List UInt8) : Bool := decide (IsMT nm st cs b s t ∧ headP st.toNat cs b s t t.length = roundsL st.toNat)
theorem rndC_eq (nm : List UInt8) (st : Int) (cs : List (List UInt8)) (b s t : List UInt8) : rndV nm st cs b s t = .tuple ⟨[.bool (rndC nm st cs b s t), .bool (decide (IsMT nm st cs b s t))]⟩ := by
  unfold rndV rndC
  split <;> simp [*]
theorem leastV_eq (t : List UInt8) (both : Bool) : leastV t both = .tuple ⟨[S (if IsTch t then leastB (backL t) t both else []), .bool (decide (IsTch t))]⟩ := by
  unfold leastV
  split <;> simp [*]
theorem revV_eq (t : List UInt8) : revV t = .tuple ⟨[S (if IsTch t then backL t else []), .bool (decide (IsTch t))]⟩ := by
  unfold revV
  split <;> simp [*]
theorem tch_turn {t : List UInt8} (h : IsTch t) (n : Nat) (hn : n ≤ t.length) : IsTch (turnT t n) := by
  refine ⟨by rw [turnT_len t n hn]; exact h.1, fun c hc => h.2 c ?_⟩
  rcases List.mem_append.1 hc with hc | hc
  · exact List.mem_of_mem_drop hc
  · exact List.mem_of_mem_take hc
theorem turn_round {nm : List UInt8} {st : Nat} {cs : List (List UInt8)} {b s t : List UInt8} (hM : IsMT nm st cs b s t) (n : Nat) : headP st cs b s (turnT t n) (turnT t n).length = roundsL st ↔ headP st cs b s t t.length = roundsL st := by
  have h8 : 3 ≤ st ∧ st ≤ 8 := by have := hM.1.1.2.1; omega
  rw [headP, headP, List.take_length, List.take_length, turnT, prodL_turn h8 (HD_row hM.1), List.take_append_drop]
set_option maxHeartbeats 4000000 in
theorem lFnTurned_ok (v u : Value) (code more : List UInt8) (hcl : code.length ≤ 140737488355328) (hml : more.length ≤ 140737488355328) (w : World) (h : Sq fU 1 w v code) (h' : Sq fU 1 w u more) : Fn 10 [v, u] w (fun r _ => r = .bool true) := by
  (refine callsV_of mix Try.func10 c_lFnTurned ?_; simp only [↓vsd, vsn, gW, qd, qv, ev, pick, argE, zipE, ne_eq, eq_self, forall_const, implies_true, if_true, if_false, reduceIte, reduceCtorEq, Nat.reduceEqDiff, Nat.reduceAdd, Nat.reduceLT, ↓us_lFnTurned, r_lFnTurned])
  simp only [↓vsd, vsn, gW, qd, qv, ev, pick, argE, zipE, ne_eq, eq_self, forall_const, implies_true, if_true, if_false, reduceIte, reduceCtorEq, Nat.reduceEqDiff, Nat.reduceAdd, Nat.reduceLT, ↓us_lFnTurned, r_lFnTurned, h.facts, h'.facts]
  refine ⟨inR_i64 (by omega), fun _ => Ext.refl _, fun hsm => ?_⟩
  have hlen : code.length ≤ 1048576 ∧ more.length ≤ 1048576 := by omega
  refine m_call (sDrawIsRound_ok v code hlen.1 _ h) ?_
  rintro _ w1 hx1 ⟨nm, st, x, cs, b, s, t, rfl, ho1, hnm, hst, hcs, hc8, hbs, ht⟩
  simp only [↓vsd, vsn, gW, qd, qv, ev, pick, argE, zipE, ne_eq, eq_self, forall_const, implies_true, if_true, if_false, reduceIte, reduceCtorEq, Nat.reduceEqDiff, Nat.reduceAdd, Nat.reduceLT, ↓us_lFnTurned, r_lFnTurned]
  refine m_al ?_
  rintro bm w2 hbm hblk2 hx2 hs2
  simp only [↓vsd, vsn, gW, qd, qv, ev, pick, argE, zipE, ne_eq, eq_self, forall_const, implies_true, if_true, if_false, reduceIte, reduceCtorEq, Nat.reduceEqDiff, Nat.reduceAdd, Nat.reduceLT, ↓us_lFnTurned, r_lFnTurned]
  refine m_al ?_
  rintro bk w3 hbk hblk3 hx3 hs3
  simp only [↓vsd, vsn, gW, qd, qv, ev, pick, argE, zipE, ne_eq, eq_self, forall_const, implies_true, if_true, if_false, reduceIte, reduceCtorEq, Nat.reduceEqDiff, Nat.reduceAdd, Nat.reduceLT, ↓us_lFnTurned, r_lFnTurned]
  refine m_st (Blk.ext hblk2 hx3) rfl (Nat.le_refl 3) (fM_one nm st x ho1.sq.one') ?_
  rintro w4 hblk4 hu4
  have hm4 : Blk w4 bm (fM nm st x) 41 := hblk4
  simp only [↓vsd, vsn, gW, qd, qv, ev, pick, argE, zipE, ne_eq, eq_self, forall_const, implies_true, if_true, if_false, reduceIte, reduceCtorEq, Nat.reduceEqDiff, Nat.reduceAdd, Nat.reduceLT, ↓us_lFnTurned, r_lFnTurned]
  refine m_st (hu4.blk hblk3 (by omega)) rfl (Nat.le_refl 2) (fQ_one b s) ?_
  rintro w5 hblk5 hu5
  have hkL : Blk w5 bk (fQ b s) 32 := hblk5
  have hmL := hu5.blk hm4 (by omega)
  have hoL := (((ho1.ext hx2).ext hx3).upd hu4 (ho1.away (by omega))).upd hu5 (ho1.away (by omega))
  have hxL : Ext w w5 := hu5.below (hu4.below ((hx1.trans hx2).trans hx3) (by have := hx1.size; omega)) (by have := hx1.size; omega)
  have hnm' : nm.length ≤ 1048576 := by omega
  have hc8' : ∀ c ∈ cs, c.length ≤ 1048576 := fun c hc => by have := hc8 c hc; omega
  have hcs' : cs.length ≤ 1000000000 := by omega
  have hbs' : b.length ≤ 1048576 ∧ s.length ≤ 1048576 := by omega
  have ht' : t.length ≤ 1000000000 := by omega
  clear hblk2 hblk3 hblk4 hblk5 hx1 hx2 hx3 hu4 hu5 hm4 ho1 hbm hbk hs2 hs3
  simp only [↓vsd, vsn, gW, qd, qv, ev, pick, argE, zipE, ne_eq, eq_self, forall_const, implies_true, if_true, if_false, reduceIte, reduceCtorEq, Nat.reduceEqDiff, Nat.reduceAdd, Nat.reduceLT, ↓us_lFnTurned, r_lFnTurned]
  refine m_call (sDrawTurnTouch_ok u more hlen.2 _ (h'.ext hxL)) ?_
  rintro _ w6 hxn ⟨xx, n, rfl, hxx⟩
  have hmL := hmL.ext hxn
  have hkL := hkL.ext hxn
  have hoL := hoL.ext hxn
  have hxL := hxL.trans hxn
  simp only [↓vsd, vsn, gW, qd, qv, ev, pick, argE, zipE, ne_eq, eq_self, forall_const, implies_true, if_true, if_false, reduceIte, reduceCtorEq, Nat.reduceEqDiff, Nat.reduceAdd, Nat.reduceLT, ↓us_lFnTurned, r_lFnTurned]
  refine m_call (iTurnTouch_ok xx n (by omega) _) ?_
  rintro _ w7 hxn rfl
  have hmL := hmL.ext hxn
  have hkL := hkL.ext hxn
  have hoL := hoL.ext hxn
  have hxL := hxL.trans hxn
  simp only [↓vsd, vsn, gW, qd, qv, ev, pick, argE, zipE, ne_eq, eq_self, forall_const, implies_true, if_true, if_false, reduceIte, reduceCtorEq, Nat.reduceEqDiff, Nat.reduceAdd, Nat.reduceLT, ↓us_lFnTurned, r_lFnTurned]
  refine m_call (sTurnTouch_ok xx n (by omega) _) ?_
  rintro _ w8 hxn rfl
  have hmL := hmL.ext hxn
  have hkL := hkL.ext hxn
  have hoL := hoL.ext hxn
  have hxL := hxL.trans hxn
  simp only [↓vsd, vsn, gW, qd, qv, ev, pick, argE, zipE, ne_eq, eq_self, forall_const, implies_true, if_true, if_false, reduceIte, reduceCtorEq, Nat.reduceEqDiff, Nat.reduceAdd, Nat.reduceLT, ↓us_lFnTurned, r_lFnTurned]
  refine m_call (sDrawLeastTurn_ok u more hlen.2 _ (h'.ext hxL)) ?_
  rintro _ w9 hxn ⟨y, both, rfl, hy⟩
  have hmL := hmL.ext hxn
  have hkL := hkL.ext hxn
  have hoL := hoL.ext hxn
  have hxL := hxL.trans hxn
  simp only [↓vsd, vsn, gW, qd, qv, ev, pick, argE, zipE, ne_eq, eq_self, forall_const, implies_true, if_true, if_false, reduceIte, reduceCtorEq, Nat.reduceEqDiff, Nat.reduceAdd, Nat.reduceLT, ↓us_lFnTurned, r_lFnTurned]
  refine m_call (iLeastTurn_ok y both (by omega) _) ?_
  rintro re w10 hxn hre
  rw [leastV_eq] at hre
  subst hre
  have hmL := hmL.ext hxn
  have hkL := hkL.ext hxn
  have hoL := hoL.ext hxn
  have hxL := hxL.trans hxn
  simp only [↓vsd, vsn, gW, qd, qv, ev, pick, argE, zipE, ne_eq, eq_self, forall_const, implies_true, if_true, if_false, reduceIte, reduceCtorEq, Nat.reduceEqDiff, Nat.reduceAdd, Nat.reduceLT, ↓us_lFnTurned, r_lFnTurned]
  refine m_call (sLeastTurn_ok y both (by omega) _) ?_
  rintro re w11 hxn hre
  rw [leastV_eq] at hre
  subst hre
  have hmL := hmL.ext hxn
  have hkL := hkL.ext hxn
  have hoL := hoL.ext hxn
  have hxL := hxL.trans hxn
  simp only [↓vsd, vsn, gW, qd, qv, ev, pick, argE, zipE, ne_eq, eq_self, forall_const, implies_true, if_true, if_false, reduceIte, reduceCtorEq, Nat.reduceEqDiff, Nat.reduceAdd, Nat.reduceLT, ↓us_lFnTurned, r_lFnTurned]
  refine m_call (iReverseTouch_ok y (by omega) _) ?_
  rintro re w12 hxn hre
  rw [revV_eq] at hre
  subst hre
  have hmL := hmL.ext hxn
  have hkL := hkL.ext hxn
  have hoL := hoL.ext hxn
  have hxL := hxL.trans hxn
  simp only [↓vsd, vsn, gW, qd, qv, ev, pick, argE, zipE, ne_eq, eq_self, forall_const, implies_true, if_true, if_false, reduceIte, reduceCtorEq, Nat.reduceEqDiff, Nat.reduceAdd, Nat.reduceLT, ↓us_lFnTurned, r_lFnTurned]
  refine m_call (sReverseTouch_ok y (by omega) _) ?_
  rintro re w13 hxn hre
  rw [revV_eq] at hre
  subst hre
  have hmL := hmL.ext hxn
  have hkL := hkL.ext hxn
  have hoL := hoL.ext hxn
  have hxL := hxL.trans hxn
  simp only [↓vsd, vsn, gW, qd, qv, ev, pick, argE, zipE, ne_eq, eq_self, forall_const, implies_true, if_true, if_false, reduceIte, reduceCtorEq, Nat.reduceEqDiff, Nat.reduceAdd, Nat.reduceLT, ↓us_lFnTurned, r_lFnTurned]
  refine m_call (iCallsIn_ok y (by omega) _) ?_
  rintro _ w14 hxn ⟨c1, rfl, hoc1⟩
  have hmL := hmL.ext hxn
  have hkL := hkL.ext hxn
  have hoL := hoL.ext hxn
  have hxL := hxL.trans hxn
  simp only [↓vsd, vsn, gW, qd, qv, ev, pick, argE, zipE, ne_eq, eq_self, forall_const, implies_true, if_true, if_false, reduceIte, reduceCtorEq, Nat.reduceEqDiff, Nat.reduceAdd, Nat.reduceLT, ↓us_lFnTurned, r_lFnTurned]
  refine m_call (sCallsIn_ok y (by omega) _) ?_
  rintro _ w15 hxn ⟨c2, rfl, hoc2⟩
  have hoc1 := hoc1.ext hxn
  have hmL := hmL.ext hxn
  have hkL := hkL.ext hxn
  have hoL := hoL.ext hxn
  have hxL := hxL.trans hxn
  have hcl3 : (callsL y).length ≤ 1000000000 := by
    unfold callsL
    split
    · obtain ⟨p, q, r, e, _⟩ := cntC_is y y.length
      rw [e]; simp
    · simp
  simp only [↓vsd, vsn, gW, qd, qv, ev, pick, argE, zipE, ne_eq, eq_self, forall_const, implies_true, if_true, if_false, reduceIte, reduceCtorEq, Nat.reduceEqDiff, Nat.reduceAdd, Nat.reduceLT, ↓us_lFnTurned, r_lFnTurned]
  refine m_call (lqSameN_ok c1 c2 _ _ _ hoc1.sq hoc2.sq hcl3) ?_
  rintro _ w16 hxn rfl
  have hmL := hmL.ext hxn
  have hkL := hkL.ext hxn
  have hoL := hoL.ext hxn
  have hxL := hxL.trans hxn
  by_cases hTO : TurnOk xx n
  · obtain ⟨k, rfl⟩ : ∃ k : Nat, n = k := ⟨n.toNat, by have := hTO.2.1; omega⟩
    have hTOd := decide_eq_true hTO
    have hkx : k < xx.length := by have := hTO.2.2; omega
    have htv : turnTV xx k = turnT xx k := by rw [turnTV, if_pos hTO, Int.toNat_natCast]
    have hTT := tch_turn hTO.1 k (Nat.le_of_lt hkx)
    simp only [↓vsd, vsn, gW, qd, qv, ev, pick, argE, zipE, ne_eq, eq_self, forall_const, implies_true, if_true, if_false, reduceIte, reduceCtorEq, Nat.reduceEqDiff, Nat.reduceAdd, Nat.reduceLT, ↓us_lFnTurned, r_lFnTurned, hTOd, htv]
    refine m_call (iLeastTurn_ok xx false (by omega) _) ?_
    rintro re w17 hxn hre
    rw [leastV, if_pos hTO.1] at hre
    subst hre
    have hmL := hmL.ext hxn
    have hkL := hkL.ext hxn
    have hoL := hoL.ext hxn
    have hxL := hxL.trans hxn
    simp only [↓vsd, vsn, gW, qd, qv, ev, pick, argE, zipE, ne_eq, eq_self, forall_const, implies_true, if_true, if_false, reduceIte, reduceCtorEq, Nat.reduceEqDiff, Nat.reduceAdd, Nat.reduceLT, ↓us_lFnTurned, r_lFnTurned]
    refine m_call (iLeastTurn_ok (turnT xx k) false (by rw [turnT_len _ _ (Nat.le_of_lt hkx)]; omega) _) ?_
    rintro re w18 hxn hre
    rw [leastV, if_pos hTT] at hre
    subst hre
    have hmL := hmL.ext hxn
    have hkL := hkL.ext hxn
    have hoL := hoL.ext hxn
    have hxL := hxL.trans hxn
    have e1 : leastB (backL (turnT xx k)) (turnT xx k) false = leastL xx := leastL_turn xx k hkx
    have e2 : leastB (backL xx) xx false = leastL xx := rfl
    have e3 : (!(Op.bytesLess (leastL xx) xx || decide (leastL xx = xx))) = false := by
      rcases (less_tot (leastL xx) xx).2 (leastL_le xx) with hh | hh
      · rw [hh]; rfl
      · rw [decide_eq_true hh, Bool.or_true]; rfl
    rw [e1, e2]
    simp only [↓vsd, vsn, gW, qd, qv, ev, pick, argE, zipE, ne_eq, eq_self, forall_const, implies_true, if_true, if_false, reduceIte, reduceCtorEq, Nat.reduceEqDiff, Nat.reduceAdd, Nat.reduceLT, ↓us_lFnTurned, r_lFnTurned, e3]
    by_cases hY : IsTch y
    · have hYd := decide_eq_true hY
      have hBY := tch_back hY
      simp only [↓vsd, vsn, gW, qd, qv, ev, pick, argE, zipE, ne_eq, eq_self, forall_const, implies_true, if_true, if_false, reduceIte, reduceCtorEq, Nat.reduceEqDiff, Nat.reduceAdd, Nat.reduceLT, ↓us_lFnTurned, r_lFnTurned, hYd, hY, if_pos]
      refine m_call (iLeastTurn_ok (backL y) true (by rw [backL_len]; omega) _) ?_
      rintro re wf hxf hre
      rw [leastV, if_pos hBY] at hre
      subst hre
      simp only [↓vsd, vsn, gW, qd, qv, ev, pick, argE, zipE, ne_eq, eq_self, forall_const, implies_true, if_true, if_false, reduceIte, reduceCtorEq, Nat.reduceEqDiff, Nat.reduceAdd, Nat.reduceLT, ↓us_lFnTurned, r_lFnTurned]
      refine m_call (iLeastTurn_ok y true (by omega) _) ?_
      rintro re wg hxg hre
      rw [leastV, if_pos hY] at hre
      subst hre
      simp only [↓vsd, vsn, gW, qd, qv, ev, pick, argE, zipE, ne_eq, eq_self, forall_const, implies_true, if_true, if_false, reduceIte, reduceCtorEq, Nat.reduceEqDiff, Nat.reduceAdd, Nat.reduceLT, ↓us_lFnTurned, r_lFnTurned]
      refine m_call (iReverseTouch_ok (backL y) (by rw [backL_len]; omega) _) ?_
      rintro re wh hxh hre
      rw [revV, if_pos hBY, back_back hY.1.1] at hre
      subst hre
      have e : leastB (backL (backL y)) (backL y) true = leastB (backL y) y true := by
        rw [back_back hY.1.1]; exact minT_comm _ _
      have hxfh := (hxf.trans hxg).trans hxh
      have hxL := hxL.trans hxfh
      have hmL := hmL.ext hxfh
      have hkL := hkL.ext hxfh
      have hoL := hoL.ext hxfh
      simp only [↓vsd, vsn, gW, qd, qv, ev, pick, argE, zipE, ne_eq, eq_self, forall_const, implies_true, if_true, if_false, reduceIte, reduceCtorEq, Nat.reduceEqDiff, Nat.reduceAdd, Nat.reduceLT, ↓us_lFnTurned, r_lFnTurned, e, hmL.facts, hkL.facts, fMg, fQg]
      refine m_call (iIsRound_ok nm st x cs b s t hnm' hc8' hcs' hbs' ht' _ hoL.sq) ?_
      rintro re wr hxr hre
      rw [rndC_eq] at hre
      subst hre
      have hmr := hmL.ext hxr
      have hkr := hkL.ext hxr
      have hor := hoL.ext hxr
      simp only [↓vsd, vsn, gW, qd, qv, ev, pick, argE, zipE, ne_eq, eq_self, forall_const, implies_true, if_true, if_false, reduceIte, reduceCtorEq, Nat.reduceEqDiff, Nat.reduceAdd, Nat.reduceLT, ↓us_lFnTurned, r_lFnTurned, hmr.facts, hkr.facts, fMg, fQg]
      refine m_call (sIsRound_ok nm st x cs b s t hnm' hc8' hcs' hbs' ht' _ hor.sq) ?_
      rintro re wq hxq hre
      rw [rndC_eq] at hre
      subst hre
      have hmq := hmr.ext hxq
      have hkq := hkr.ext hxq
      have hoq := hor.ext hxq
      have hxLq := (hxL.trans hxr).trans hxq
      by_cases hM : IsMT nm st cs b s t
      · have hMd := decide_eq_true hM
        simp only [↓vsd, vsn, gW, qd, qv, ev, pick, argE, zipE, ne_eq, eq_self, forall_const, implies_true, if_true, if_false, reduceIte, reduceCtorEq, Nat.reduceEqDiff, Nat.reduceAdd, Nat.reduceLT, ↓us_lFnTurned, r_lFnTurned, hMd]
        refine m_call (lqNumber_ok u more hlen.2 _ (h'.ext hxLq)) ?_
        rintro _ wn hxn ⟨num, rfl, hnum⟩
        have ht1 := hM.2.1
        have hmd : num % t.length < t.length := Nat.mod_lt _ (by omega)
        have hL0 : ¬ (t.length : Int) = 0 := by omega
        simp only [↓vsd, vsn, gW, qd, qv, ev, pick, argE, zipE, ne_eq, eq_self, forall_const, implies_true, if_true, if_false, reduceIte, reduceCtorEq, Nat.reduceEqDiff, Nat.reduceAdd, Nat.reduceLT, ↓us_lFnTurned, r_lFnTurned, hL0]
        refine m_call (iTurnTouch_ok t _ (by omega) _) ?_
        rintro re wv hxv rfl
        have hTO : TurnOk t ((num % t.length : Nat) : Int) := ⟨hM.2, Int.natCast_nonneg _, Int.ofNat_lt.2 hmd⟩
        have hTOd := decide_eq_true hTO
        have htv : turnTV t ((num % t.length : Nat) : Int) = turnT t (num % t.length) := by rw [turnTV, if_pos hTO, Int.toNat_natCast]
        have hmv := (hmq.ext hxn).ext hxv
        have hkv := (hkq.ext hxn).ext hxv
        have hov := (hoq.ext hxn).ext hxv
        have hM2 : IsMT nm st cs b s (turnT t (num % t.length)) := ⟨hM.1, tch_turn hM.2 _ (Nat.le_of_lt hmd)⟩
        simp only [↓vsd, vsn, gW, qd, qv, ev, pick, argE, zipE, ne_eq, eq_self, forall_const, implies_true, if_true, if_false, reduceIte, reduceCtorEq, Nat.reduceEqDiff, Nat.reduceAdd, Nat.reduceLT, ↓us_lFnTurned, r_lFnTurned, hTOd, htv, hmv.facts, hkv.facts, fMg, fQg]
        refine m_call (iIsRound_ok nm st x cs b s _ hnm' hc8' hcs' hbs' (by rw [turnT_len _ _ (Nat.le_of_lt hmd)]; exact ht') _ hov.sq) ?_
        rintro re wz hxz hre
        rw [rndC_eq] at hre
        subst hre
        have hM2d := decide_eq_true hM2
        have hiff : rndC nm st cs b s (turnT t (num % t.length)) = rndC nm st cs b s t := by
          obtain ⟨n0, rfl⟩ : ∃ n : Nat, st = n := ⟨st.toNat, by omega⟩
          unfold rndC
          simp only [Int.toNat_natCast]
          exact decide_eq_decide.2 ⟨fun hh => ⟨hM, (turn_round hM _).1 hh.2⟩, fun hh => ⟨hM2, (turn_round hM _).2 hh.2⟩⟩
        simp only [↓vsd, vsn, gW, qd, qv, ev, pick, argE, zipE, ne_eq, eq_self, forall_const, implies_true, if_true, if_false, reduceIte, reduceCtorEq, Nat.reduceEqDiff, Nat.reduceAdd, Nat.reduceLT, ↓us_lFnTurned, r_lFnTurned, hM2d, hiff]
        exact ((hxLq.trans hxn).trans hxv).trans hxz
      · have hMd := decide_eq_false hM
        simp only [↓vsd, vsn, gW, qd, qv, ev, pick, argE, zipE, ne_eq, eq_self, forall_const, implies_true, if_true, if_false, reduceIte, reduceCtorEq, Nat.reduceEqDiff, Nat.reduceAdd, Nat.reduceLT, ↓us_lFnTurned, r_lFnTurned, hMd]
        exact hxLq
    · have hYd := decide_eq_false hY
      simp only [↓vsd, vsn, gW, qd, qv, ev, pick, argE, zipE, ne_eq, eq_self, forall_const, implies_true, if_true, if_false, reduceIte, reduceCtorEq, Nat.reduceEqDiff, Nat.reduceAdd, Nat.reduceLT, ↓us_lFnTurned, r_lFnTurned, hYd, hY, hmL.facts, hkL.facts, fMg, fQg]
      refine m_call (iIsRound_ok nm st x cs b s t hnm' hc8' hcs' hbs' ht' _ hoL.sq) ?_
      rintro re wr hxr hre
      rw [rndC_eq] at hre
      subst hre
      have hmr := hmL.ext hxr
      have hkr := hkL.ext hxr
      have hor := hoL.ext hxr
      simp only [↓vsd, vsn, gW, qd, qv, ev, pick, argE, zipE, ne_eq, eq_self, forall_const, implies_true, if_true, if_false, reduceIte, reduceCtorEq, Nat.reduceEqDiff, Nat.reduceAdd, Nat.reduceLT, ↓us_lFnTurned, r_lFnTurned, hmr.facts, hkr.facts, fMg, fQg]
      refine m_call (sIsRound_ok nm st x cs b s t hnm' hc8' hcs' hbs' ht' _ hor.sq) ?_
      rintro re wq hxq hre
      rw [rndC_eq] at hre
      subst hre
      have hmq := hmr.ext hxq
      have hkq := hkr.ext hxq
      have hoq := hor.ext hxq
      have hxLq := (hxL.trans hxr).trans hxq
      by_cases hM : IsMT nm st cs b s t
      · have hMd := decide_eq_true hM
        simp only [↓vsd, vsn, gW, qd, qv, ev, pick, argE, zipE, ne_eq, eq_self, forall_const, implies_true, if_true, if_false, reduceIte, reduceCtorEq, Nat.reduceEqDiff, Nat.reduceAdd, Nat.reduceLT, ↓us_lFnTurned, r_lFnTurned, hMd]
        refine m_call (lqNumber_ok u more hlen.2 _ (h'.ext hxLq)) ?_
        rintro _ wn hxn ⟨num, rfl, hnum⟩
        have ht1 := hM.2.1
        have hmd : num % t.length < t.length := Nat.mod_lt _ (by omega)
        have hL0 : ¬ (t.length : Int) = 0 := by omega
        simp only [↓vsd, vsn, gW, qd, qv, ev, pick, argE, zipE, ne_eq, eq_self, forall_const, implies_true, if_true, if_false, reduceIte, reduceCtorEq, Nat.reduceEqDiff, Nat.reduceAdd, Nat.reduceLT, ↓us_lFnTurned, r_lFnTurned, hL0]
        refine m_call (iTurnTouch_ok t _ (by omega) _) ?_
        rintro re wv hxv rfl
        have hTO : TurnOk t ((num % t.length : Nat) : Int) := ⟨hM.2, Int.natCast_nonneg _, Int.ofNat_lt.2 hmd⟩
        have hTOd := decide_eq_true hTO
        have htv : turnTV t ((num % t.length : Nat) : Int) = turnT t (num % t.length) := by rw [turnTV, if_pos hTO, Int.toNat_natCast]
        have hmv := (hmq.ext hxn).ext hxv
        have hkv := (hkq.ext hxn).ext hxv
        have hov := (hoq.ext hxn).ext hxv
        have hM2 : IsMT nm st cs b s (turnT t (num % t.length)) := ⟨hM.1, tch_turn hM.2 _ (Nat.le_of_lt hmd)⟩
        simp only [↓vsd, vsn, gW, qd, qv, ev, pick, argE, zipE, ne_eq, eq_self, forall_const, implies_true, if_true, if_false, reduceIte, reduceCtorEq, Nat.reduceEqDiff, Nat.reduceAdd, Nat.reduceLT, ↓us_lFnTurned, r_lFnTurned, hTOd, htv, hmv.facts, hkv.facts, fMg, fQg]
        refine m_call (iIsRound_ok nm st x cs b s _ hnm' hc8' hcs' hbs' (by rw [turnT_len _ _ (Nat.le_of_lt hmd)]; exact ht') _ hov.sq) ?_
        rintro re wz hxz hre
        rw [rndC_eq] at hre
        subst hre
        have hM2d := decide_eq_true hM2
        have hiff : rndC nm st cs b s (turnT t (num % t.length)) = rndC nm st cs b s t := by
          obtain ⟨n0, rfl⟩ : ∃ n : Nat, st = n := ⟨st.toNat, by omega⟩
          unfold rndC
          simp only [Int.toNat_natCast]
          exact decide_eq_decide.2 ⟨fun hh => ⟨hM, (turn_round hM _).1 hh.2⟩, fun hh => ⟨hM2, (turn_round hM _).2 hh.2⟩⟩
        simp only [↓vsd, vsn, gW, qd, qv, ev, pick, argE, zipE, ne_eq, eq_self, forall_const, implies_true, if_true, if_false, reduceIte, reduceCtorEq, Nat.reduceEqDiff, Nat.reduceAdd, Nat.reduceLT, ↓us_lFnTurned, r_lFnTurned, hM2d, hiff]
        exact ((hxLq.trans hxn).trans hxv).trans hxz
      · have hMd := decide_eq_false hM
        simp only [↓vsd, vsn, gW, qd, qv, ev, pick, argE, zipE, ne_eq, eq_self, forall_const, implies_true, if_true, if_false, reduceIte, reduceCtorEq, Nat.reduceEqDiff, Nat.reduceAdd, Nat.reduceLT, ↓us_lFnTurned, r_lFnTurned, hMd]
        exact hxLq
  · have hTOd := decide_eq_false hTO
    simp only [↓vsd, vsn, gW, qd, qv, ev, pick, argE, zipE, ne_eq, eq_self, forall_const, implies_true, if_true, if_false, reduceIte, reduceCtorEq, Nat.reduceEqDiff, Nat.reduceAdd, Nat.reduceLT, ↓us_lFnTurned, r_lFnTurned, hTOd]
    by_cases hY : IsTch y
    · have hYd := decide_eq_true hY
      have hBY := tch_back hY
      simp only [↓vsd, vsn, gW, qd, qv, ev, pick, argE, zipE, ne_eq, eq_self, forall_const, implies_true, if_true, if_false, reduceIte, reduceCtorEq, Nat.reduceEqDiff, Nat.reduceAdd, Nat.reduceLT, ↓us_lFnTurned, r_lFnTurned, hYd, hY, if_pos]
      refine m_call (iLeastTurn_ok (backL y) true (by rw [backL_len]; omega) _) ?_
      rintro re wf hxf hre
      rw [leastV, if_pos hBY] at hre
      subst hre
      simp only [↓vsd, vsn, gW, qd, qv, ev, pick, argE, zipE, ne_eq, eq_self, forall_const, implies_true, if_true, if_false, reduceIte, reduceCtorEq, Nat.reduceEqDiff, Nat.reduceAdd, Nat.reduceLT, ↓us_lFnTurned, r_lFnTurned]
      refine m_call (iLeastTurn_ok y true (by omega) _) ?_
      rintro re wg hxg hre
      rw [leastV, if_pos hY] at hre
      subst hre
      simp only [↓vsd, vsn, gW, qd, qv, ev, pick, argE, zipE, ne_eq, eq_self, forall_const, implies_true, if_true, if_false, reduceIte, reduceCtorEq, Nat.reduceEqDiff, Nat.reduceAdd, Nat.reduceLT, ↓us_lFnTurned, r_lFnTurned]
      refine m_call (iReverseTouch_ok (backL y) (by rw [backL_len]; omega) _) ?_
      rintro re wh hxh hre
      rw [revV, if_pos hBY, back_back hY.1.1] at hre
      subst hre
      have e : leastB (backL (backL y)) (backL y) true = leastB (backL y) y true := by
        rw [back_back hY.1.1]; exact minT_comm _ _
      have hxfh := (hxf.trans hxg).trans hxh
      have hxL := hxL.trans hxfh
      have hmL := hmL.ext hxfh
      have hkL := hkL.ext hxfh
      have hoL := hoL.ext hxfh
      simp only [↓vsd, vsn, gW, qd, qv, ev, pick, argE, zipE, ne_eq, eq_self, forall_const, implies_true, if_true, if_false, reduceIte, reduceCtorEq, Nat.reduceEqDiff, Nat.reduceAdd, Nat.reduceLT, ↓us_lFnTurned, r_lFnTurned, e, hmL.facts, hkL.facts, fMg, fQg]
      refine m_call (iIsRound_ok nm st x cs b s t hnm' hc8' hcs' hbs' ht' _ hoL.sq) ?_
      rintro re wr hxr hre
      rw [rndC_eq] at hre
      subst hre
      have hmr := hmL.ext hxr
      have hkr := hkL.ext hxr
      have hor := hoL.ext hxr
      simp only [↓vsd, vsn, gW, qd, qv, ev, pick, argE, zipE, ne_eq, eq_self, forall_const, implies_true, if_true, if_false, reduceIte, reduceCtorEq, Nat.reduceEqDiff, Nat.reduceAdd, Nat.reduceLT, ↓us_lFnTurned, r_lFnTurned, hmr.facts, hkr.facts, fMg, fQg]
      refine m_call (sIsRound_ok nm st x cs b s t hnm' hc8' hcs' hbs' ht' _ hor.sq) ?_
      rintro re wq hxq hre
      rw [rndC_eq] at hre
      subst hre
      have hmq := hmr.ext hxq
      have hkq := hkr.ext hxq
      have hoq := hor.ext hxq
      have hxLq := (hxL.trans hxr).trans hxq
      by_cases hM : IsMT nm st cs b s t
      · have hMd := decide_eq_true hM
        simp only [↓vsd, vsn, gW, qd, qv, ev, pick, argE, zipE, ne_eq, eq_self, forall_const, implies_true, if_true, if_false, reduceIte, reduceCtorEq, Nat.reduceEqDiff, Nat.reduceAdd, Nat.reduceLT, ↓us_lFnTurned, r_lFnTurned, hMd]
        refine m_call (lqNumber_ok u more hlen.2 _ (h'.ext hxLq)) ?_
        rintro _ wn hxn ⟨num, rfl, hnum⟩
        have ht1 := hM.2.1
        have hmd : num % t.length < t.length := Nat.mod_lt _ (by omega)
        have hL0 : ¬ (t.length : Int) = 0 := by omega
        simp only [↓vsd, vsn, gW, qd, qv, ev, pick, argE, zipE, ne_eq, eq_self, forall_const, implies_true, if_true, if_false, reduceIte, reduceCtorEq, Nat.reduceEqDiff, Nat.reduceAdd, Nat.reduceLT, ↓us_lFnTurned, r_lFnTurned, hL0]
        refine m_call (iTurnTouch_ok t _ (by omega) _) ?_
        rintro re wv hxv rfl
        have hTO : TurnOk t ((num % t.length : Nat) : Int) := ⟨hM.2, Int.natCast_nonneg _, Int.ofNat_lt.2 hmd⟩
        have hTOd := decide_eq_true hTO
        have htv : turnTV t ((num % t.length : Nat) : Int) = turnT t (num % t.length) := by rw [turnTV, if_pos hTO, Int.toNat_natCast]
        have hmv := (hmq.ext hxn).ext hxv
        have hkv := (hkq.ext hxn).ext hxv
        have hov := (hoq.ext hxn).ext hxv
        have hM2 : IsMT nm st cs b s (turnT t (num % t.length)) := ⟨hM.1, tch_turn hM.2 _ (Nat.le_of_lt hmd)⟩
        simp only [↓vsd, vsn, gW, qd, qv, ev, pick, argE, zipE, ne_eq, eq_self, forall_const, implies_true, if_true, if_false, reduceIte, reduceCtorEq, Nat.reduceEqDiff, Nat.reduceAdd, Nat.reduceLT, ↓us_lFnTurned, r_lFnTurned, hTOd, htv, hmv.facts, hkv.facts, fMg, fQg]
        refine m_call (iIsRound_ok nm st x cs b s _ hnm' hc8' hcs' hbs' (by rw [turnT_len _ _ (Nat.le_of_lt hmd)]; exact ht') _ hov.sq) ?_
        rintro re wz hxz hre
        rw [rndC_eq] at hre
        subst hre
        have hM2d := decide_eq_true hM2
        have hiff : rndC nm st cs b s (turnT t (num % t.length)) = rndC nm st cs b s t := by
          obtain ⟨n0, rfl⟩ : ∃ n : Nat, st = n := ⟨st.toNat, by omega⟩
          unfold rndC
          simp only [Int.toNat_natCast]
          exact decide_eq_decide.2 ⟨fun hh => ⟨hM, (turn_round hM _).1 hh.2⟩, fun hh => ⟨hM2, (turn_round hM _).2 hh.2⟩⟩
        simp only [↓vsd, vsn, gW, qd, qv, ev, pick, argE, zipE, ne_eq, eq_self, forall_const, implies_true, if_true, if_false, reduceIte, reduceCtorEq, Nat.reduceEqDiff, Nat.reduceAdd, Nat.reduceLT, ↓us_lFnTurned, r_lFnTurned, hM2d, hiff]
        exact ((hxLq.trans hxn).trans hxv).trans hxz
      · have hMd := decide_eq_false hM
        simp only [↓vsd, vsn, gW, qd, qv, ev, pick, argE, zipE, ne_eq, eq_self, forall_const, implies_true, if_true, if_false, reduceIte, reduceCtorEq, Nat.reduceEqDiff, Nat.reduceAdd, Nat.reduceLT, ↓us_lFnTurned, r_lFnTurned, hMd]
        exact hxLq
    · have hYd := decide_eq_false hY
      simp only [↓vsd, vsn, gW, qd, qv, ev, pick, argE, zipE, ne_eq, eq_self, forall_const, implies_true, if_true, if_false, reduceIte, reduceCtorEq, Nat.reduceEqDiff, Nat.reduceAdd, Nat.reduceLT, ↓us_lFnTurned, r_lFnTurned, hYd, hY, hmL.facts, hkL.facts, fMg, fQg]
      refine m_call (iIsRound_ok nm st x cs b s t hnm' hc8' hcs' hbs' ht' _ hoL.sq) ?_
      rintro re wr hxr hre
      rw [rndC_eq] at hre
      subst hre
      have hmr := hmL.ext hxr
      have hkr := hkL.ext hxr
      have hor := hoL.ext hxr
      simp only [↓vsd, vsn, gW, qd, qv, ev, pick, argE, zipE, ne_eq, eq_self, forall_const, implies_true, if_true, if_false, reduceIte, reduceCtorEq, Nat.reduceEqDiff, Nat.reduceAdd, Nat.reduceLT, ↓us_lFnTurned, r_lFnTurned, hmr.facts, hkr.facts, fMg, fQg]
      refine m_call (sIsRound_ok nm st x cs b s t hnm' hc8' hcs' hbs' ht' _ hor.sq) ?_
      rintro re wq hxq hre
      rw [rndC_eq] at hre
      subst hre
      have hmq := hmr.ext hxq
      have hkq := hkr.ext hxq
      have hoq := hor.ext hxq
      have hxLq := (hxL.trans hxr).trans hxq
      by_cases hM : IsMT nm st cs b s t
      · have hMd := decide_eq_true hM
        simp only [↓vsd, vsn, gW, qd, qv, ev, pick, argE, zipE, ne_eq, eq_self, forall_const, implies_true, if_true, if_false, reduceIte, reduceCtorEq, Nat.reduceEqDiff, Nat.reduceAdd, Nat.reduceLT, ↓us_lFnTurned, r_lFnTurned, hMd]
        refine m_call (lqNumber_ok u more hlen.2 _ (h'.ext hxLq)) ?_
        rintro _ wn hxn ⟨num, rfl, hnum⟩
        have ht1 := hM.2.1
        have hmd : num % t.length < t.length := Nat.mod_lt _ (by omega)
        have hL0 : ¬ (t.length : Int) = 0 := by omega
        simp only [↓vsd, vsn, gW, qd, qv, ev, pick, argE, zipE, ne_eq, eq_self, forall_const, implies_true, if_true, if_false, reduceIte, reduceCtorEq, Nat.reduceEqDiff, Nat.reduceAdd, Nat.reduceLT, ↓us_lFnTurned, r_lFnTurned, hL0]
        refine m_call (iTurnTouch_ok t _ (by omega) _) ?_
        rintro re wv hxv rfl
        have hTO : TurnOk t ((num % t.length : Nat) : Int) := ⟨hM.2, Int.natCast_nonneg _, Int.ofNat_lt.2 hmd⟩
        have hTOd := decide_eq_true hTO
        have htv : turnTV t ((num % t.length : Nat) : Int) = turnT t (num % t.length) := by rw [turnTV, if_pos hTO, Int.toNat_natCast]
        have hmv := (hmq.ext hxn).ext hxv
        have hkv := (hkq.ext hxn).ext hxv
        have hov := (hoq.ext hxn).ext hxv
        have hM2 : IsMT nm st cs b s (turnT t (num % t.length)) := ⟨hM.1, tch_turn hM.2 _ (Nat.le_of_lt hmd)⟩
        simp only [↓vsd, vsn, gW, qd, qv, ev, pick, argE, zipE, ne_eq, eq_self, forall_const, implies_true, if_true, if_false, reduceIte, reduceCtorEq, Nat.reduceEqDiff, Nat.reduceAdd, Nat.reduceLT, ↓us_lFnTurned, r_lFnTurned, hTOd, htv, hmv.facts, hkv.facts, fMg, fQg]
        refine m_call (iIsRound_ok nm st x cs b s _ hnm' hc8' hcs' hbs' (by rw [turnT_len _ _ (Nat.le_of_lt hmd)]; exact ht') _ hov.sq) ?_
        rintro re wz hxz hre
        rw [rndC_eq] at hre
        subst hre
        have hM2d := decide_eq_true hM2
        have hiff : rndC nm st cs b s (turnT t (num % t.length)) = rndC nm st cs b s t := by
          obtain ⟨n0, rfl⟩ : ∃ n : Nat, st = n := ⟨st.toNat, by omega⟩
          unfold rndC
          simp only [Int.toNat_natCast]
          exact decide_eq_decide.2 ⟨fun hh => ⟨hM, (turn_round hM _).1 hh.2⟩, fun hh => ⟨hM2, (turn_round hM _).2 hh.2⟩⟩
        simp only [↓vsd, vsn, gW, qd, qv, ev, pick, argE, zipE, ne_eq, eq_self, forall_const, implies_true, if_true, if_false, reduceIte, reduceCtorEq, Nat.reduceEqDiff, Nat.reduceAdd, Nat.reduceLT, ↓us_lFnTurned, r_lFnTurned, hM2d, hiff]
        exact ((hxLq.trans hxn).trans hxv).trans hxz
      · have hMd := decide_eq_false hM
        simp only [↓vsd, vsn, gW, qd, qv, ev, pick, argE, zipE, ne_eq, eq_self, forall_const, implies_true, if_true, if_false, reduceIte, reduceCtorEq, Nat.reduceEqDiff, Nat.reduceAdd, Nat.reduceLT, ↓us_lFnTurned, r_lFnTurned, hMd]
        exact hxLq
end Go.Proofs.Ytpnopboffalfnaa
