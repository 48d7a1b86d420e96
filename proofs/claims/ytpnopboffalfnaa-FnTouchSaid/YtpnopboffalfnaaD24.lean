/-
  The call of the law FnTouch.
  Conditions: none.
-/
import Derived.Test.YtpnopboffalfnaaD23
import Derived.Test.YtpnopboffalfnaaD3
import Derived.Test.YtpnopboffalfnaaA27
import Derived.Test.YtpnopboffalfnaaA35
import Derived.Test.YtpnopboffalfnaaA36
import Derived.Test.YtpnopboffalfnaaA37
set_option linter.unusedSimpArgs false
set_option linter.unusedVariables false
set_option linter.defProp false
namespace Go.Proofs.Ytpnopboffalfnaa
open Go Go.RowKit
section
variable (P : Program) (k : KT) (e : Env) (w : World)
abbrev b8_1 : X := (.cond (.t 39) (.seq (.reg [4] (.c (.q 4 [] (.mv (.c (.bool true)))) .nil)) .ret) .skip)
def t8_1 := b8_1
theorem u8_1 : vcK P t8_1 k e w = vcK P b8_1 k e w := rfl
abbrev b8_2 : X := (.cond (.t 148) (.seq (.reg [4] (.c (.q 4 [] (.mv (.c (.bool false)))) .nil)) .ret) .skip)
def t8_2 := b8_2
theorem u8_2 : vcK P t8_2 k e w = vcK P b8_2 k e w := rfl
abbrev b8_3 : X := (.cond (.t 150) (.seq (.reg [4] (.c (.q 4 [] (.mv (.c (.bool true)))) .nil)) .ret) .skip)
def t8_3 := b8_3
theorem u8_3 : vcK P t8_3 k e w = vcK P b8_3 k e w := rfl
abbrev b8_4 : X := (.cond (.t 189) (.seq (.reg [4] (.c (.q 4 [] (.mv (.c (.bool false)))) .nil)) .ret) .skip)
def t8_4 := b8_4
theorem u8_4 : vcK P t8_4 k e w = vcK P b8_4 k e w := rfl
abbrev b8_5 : X := (.cond (.t 229) (.seq (.reg [4] (.c (.q 4 [] (.mv (.c (.bool false)))) .nil)) .ret) .skip)
def t8_5 := b8_5
theorem u8_5 : vcK P t8_5 k e w = vcK P b8_5 k e w := rfl
abbrev b8_6 : X := (.seq (.reg [5, 6, 7, 8, 12, 13, 191, 229] (.c (.q 215 [] (.mv (.t 28))) (.c (.q 216 [] (.not (.t 215))) (.c (.q 217 [] (.mv (.t 216))) (.c (.q 218 [(217, false)] (.mv (.t 30))) (.c (.q 219 [(217, false)] (.not (.t 218))) (.c (.q 220 [] (.pick (.t 217) (.c (.bool true)) (.t 219))) (.c (.q 221 [] (.mv (.t 220))) (.c (.q 222 [(221, false)] (.mv (.t 29))) (.c (.q 223 [(221, false)] (.mv (.t 8))) (.c (.q 224 [(221, false)] (.mv (.t 26))) (.c (.q 225 [(221, false)] (.bin .add (.t 224) (.c (.int .i64 1)))) (.c (.q 226 [(221, false)] (.ia 1 (.t 223) (.t 225))) (.c (.q 227 [(221, false)] (.ld (.t 226))) (.c (.q 228 [(221, false)] (.bin .neq (.t 222) (.t 227))) (.c (.q 229 [] (.pick (.t 221) (.c (.bool true)) (.t 228))) .nil)))))))))))))))) t8_5)
def t8_6 := b8_6
theorem u8_6 : vcK P t8_6 k e w = vcK P b8_6 k e w := rfl
abbrev b8_7 : X := (.seq (.reg [5, 6, 7, 8, 12, 13, 26, 28, 29, 30, 191] (.c (.q 207 [] (.mv (.t 8))) (.c (.q 208 [] (.mv (.t 26))) (.c (.q 209 [] (.ia 1 (.t 207) (.t 208))) (.c (.q 210 [] (.ld (.t 209))) (.c (.q 211 [] (.mv (.t 27))) (.c (.e (some 212) [] (.call false 86 [(.t 210), (.t 211)])) (.c (.q 206 [] (.mv (.t 212))) (.c (.q 213 [] (.ext 0 (.t 206))) (.c (.q 214 [] (.ext 1 (.t 206))) (.c (.q 29 [] (.mv (.t 213))) (.c (.q 30 [] (.mv (.t 214))) .nil)))))))))))) t8_6)
def t8_7 := b8_7
theorem u8_7 : vcK P t8_7 k e w = vcK P b8_7 k e w := rfl
abbrev b8_8 : X := (.seq (.drw [5, 6, 7, 8, 12, 13, 26, 27, 28, 191] (.c (.q 196 [] (.lda 3 (.t 5))) (.c (.q 197 [] (.lda 2 (.t 6))) (.c (.q 198 [] (.mv (.t 7))) (.c (.q 199 [] (.mv (.t 26))) (.c (.q 200 [] (.mv (.t 26))) (.c (.q 201 [] (.bin .add (.t 200) (.c (.int .i64 1)))) (.c (.q 202 [] (.sub (.t 198) (some (.t 199)) (some (.t 201)))) (.c (.e (some 203) [] (.call false 85 [(.t 196), (.t 197), (.t 202)])) (.c (.q 195 [] (.mv (.t 203))) (.c (.q 204 [] (.ext 0 (.t 195))) (.c (.q 205 [] (.ext 1 (.t 195))) (.c (.q 27 [] (.mv (.t 204))) (.c (.q 28 [] (.mv (.t 205))) .nil)))))))))))))) t8_7)
def t8_8 := b8_8
theorem u8_8 : vcK P t8_8 k e w = vcK P b8_8 k e w := rfl
abbrev b8_9 : X := (.blk 1 (.seq (.reg [5, 6, 7, 8, 12, 13, 26, 191] (.c (.q 194 [] (.ext 1 (.t 192))) (.c (.q 26 [] (.mv (.t 194))) .nil))) t8_8))
def t8_9 := b8_9
theorem u8_9 : vcK P t8_9 k e w = vcK P b8_9 k e w := rfl
abbrev b8_10 : X := (.seq (.cond (.t 193) .skip (.exit 0)) t8_9)
def t8_10 := b8_10
theorem u8_10 : vcK P t8_10 k e w = vcK P b8_10 k e w := rfl
abbrev b8_11 : X := (.seq (.reg [5, 6, 7, 8, 12, 13, 191, 192, 193] (.c (.e (some 192) [] (.nxt (.t 191))) (.c (.q 193 [] (.ext 0 (.t 192))) .nil))) t8_10)
def t8_11 := b8_11
theorem u8_11 : vcK P t8_11 k e w = vcK P b8_11 k e w := rfl
abbrev b8_12 : X := (.blk 0 (.loop [] [5, 6, 7, 8, 12, 13, 191] t8_11))
def t8_12 := b8_12
theorem u8_12 : vcK P t8_12 k e w = vcK P b8_12 k e w := rfl
abbrev b8_13 : X := (.cond (.t 231) (.seq (.reg [4] (.c (.q 232 [] (.mv (.t 7))) (.c (.q 233 [] (.len (.t 232))) (.c (.q 234 [] (.fa 2 (.t 5))) (.c (.q 235 [] (.ld (.t 234))) (.c (.q 236 [] (.lens (.t 235))) (.c (.q 237 [] (.bin .mul (.t 233) (.t 236))) (.c (.q 238 [] (.bin .gtr (.t 237) (.c (.int .i64 800)))) (.c (.q 4 [] (.mv (.t 238))) .nil))))))))) .ret) .skip)
def t8_13 := b8_13
theorem u8_13 : vcK P t8_13 k e w = vcK P b8_13 k e w := rfl
abbrev b8_14 : X := (.cond (.t 247) (.seq (.reg [4] (.c (.q 4 [] (.mv (.c (.bool false)))) .nil)) .ret) .skip)
def t8_14 := b8_14
theorem u8_14 : vcK P t8_14 k e w = vcK P b8_14 k e w := rfl
abbrev b8_15 : X := (.cond (.t 273) (.seq (.reg [4] (.c (.q 4 [] (.mv (.c (.bool false)))) .nil)) .ret) .skip)
def t8_15 := b8_15
theorem u8_15 : vcK P t8_15 k e w = vcK P b8_15 k e w := rfl
abbrev b8_16 : X := (.cond (.t 308) (.seq (.reg [4] (.c (.q 4 [] (.mv (.c (.bool false)))) .nil)) .ret) .skip)
def t8_16 := b8_16
theorem u8_16 : vcK P t8_16 k e w = vcK P b8_16 k e w := rfl
abbrev b8_17 : X := (.seq (.reg [5, 8, 12, 249, 250, 308] (.c (.q 299 [] (.mv (.t 33))) (.c (.q 300 [] (.not (.t 299))) (.c (.q 301 [] (.mv (.t 300))) (.c (.q 302 [(301, false)] (.mv (.t 32))) (.c (.q 303 [(301, false)] (.mv (.t 12))) (.c (.q 304 [(301, false)] (.mv (.t 31))) (.c (.q 305 [(301, false)] (.ia 1 (.t 303) (.t 304))) (.c (.q 306 [(301, false)] (.ld (.t 305))) (.c (.q 307 [(301, false)] (.bin .neq (.t 302) (.t 306))) (.c (.q 308 [] (.pick (.t 301) (.c (.bool true)) (.t 307))) .nil))))))))))) t8_16)
def t8_17 := b8_17
theorem u8_17 : vcK P t8_17 k e w = vcK P b8_17 k e w := rfl
abbrev b8_18 : X := (.cond (.t 279) (.seq (.drw [5, 8, 12, 31, 32, 33, 249, 250] (.c (.q 281 [] (.mv (.t 12))) (.c (.q 282 [] (.mv (.t 31))) (.c (.q 283 [] (.bin .sub (.t 282) (.c (.int .i64 1)))) (.c (.q 284 [] (.ia 1 (.t 281) (.t 283))) (.c (.q 285 [] (.ld (.t 284))) (.c (.q 286 [] (.fa 2 (.t 5))) (.c (.q 287 [] (.ld (.t 286))) (.c (.q 288 [] (.mv (.t 31))) (.c (.q 289 [] (.fa 2 (.t 5))) (.c (.q 290 [] (.ld (.t 289))) (.c (.q 291 [] (.lens (.t 290))) (.c (.q 292 [] (.bin .rem (.t 288) (.t 291))) (.c (.q 293 [] (.bin .sub (.t 292) (.c (.int .i64 1)))) (.c (.q 294 [] (.ia 1 (.t 287) (.t 293))) (.c (.q 295 [] (.ld (.t 294))) (.c (.e (some 296) [] (.call false 87 [(.t 285), (.t 295)])) (.c (.q 280 [] (.mv (.t 296))) (.c (.q 297 [] (.ext 0 (.t 280))) (.c (.q 298 [] (.ext 1 (.t 280))) (.c (.q 32 [] (.mv (.t 297))) (.c (.q 33 [] (.mv (.t 298))) .nil)))))))))))))))))))))) t8_17) .skip)
def t8_18 := b8_18
theorem u8_18 : vcK P t8_18 k e w = vcK P b8_18 k e w := rfl
abbrev b8_19 : X := (.seq (.reg [5, 8, 12, 31, 249, 250, 279] (.c (.q 274 [] (.mv (.t 31))) (.c (.q 275 [] (.fa 2 (.t 5))) (.c (.q 276 [] (.ld (.t 275))) (.c (.q 277 [] (.lens (.t 276))) (.c (.q 278 [] (.bin .rem (.t 274) (.t 277))) (.c (.q 279 [] (.bin .gtr (.t 278) (.c (.int .i64 0)))) .nil))))))) t8_18)
def t8_19 := b8_19
theorem u8_19 : vcK P t8_19 k e w = vcK P b8_19 k e w := rfl
abbrev b8_20 : X := (.seq (.seq (.drw [5, 8, 12, 31, 249, 250, 273] (.c (.q 253 [] (.mv (.t 31))) (.c (.q 254 [] (.fa 2 (.t 5))) (.c (.q 255 [] (.ld (.t 254))) (.c (.q 256 [] (.lens (.t 255))) (.c (.q 257 [] (.bin .rem (.t 253) (.t 256))) (.c (.q 258 [] (.bin .eql (.t 257) (.c (.int .i64 0)))) (.c (.q 259 [] (.mv (.t 258))) (.c (.q 260 [(259, true)] (.mv (.t 12))) (.c (.q 261 [(259, true)] (.mv (.t 31))) (.c (.q 262 [(259, true)] (.ia 1 (.t 260) (.t 261))) (.c (.q 263 [(259, true)] (.ld (.t 262))) (.c (.q 264 [(259, true)] (.mv (.t 8))) (.c (.q 265 [(259, true)] (.mv (.t 31))) (.c (.q 266 [(259, true)] (.fa 2 (.t 5))) (.c (.q 267 [(259, true)] (.ld (.t 266))) (.c (.q 268 [(259, true)] (.lens (.t 267))) (.c (.q 269 [(259, true)] (.bin .quo (.t 265) (.t 268))) (.c (.q 270 [(259, true)] (.ia 1 (.t 264) (.t 269))) (.c (.q 271 [(259, true)] (.ld (.t 270))) (.c (.q 272 [(259, true)] (.bin .neq (.t 263) (.t 271))) (.c (.q 273 [] (.pick (.t 259) (.t 272) (.c (.bool false)))) .nil)))))))))))))))))))))) t8_15) t8_19)
def t8_20 := b8_20
theorem u8_20 : vcK P t8_20 k e w = vcK P b8_20 k e w := rfl
abbrev b8_21 : X := (.reg [5, 8, 12, 249, 250] (.c (.q 309 [] (.bin .add (.t 250) (.c (.int .i64 1)))) (.c (.q 250 [] (.mv (.t 309))) .nil)))
def t8_21 := b8_21
theorem u8_21 : vcK P t8_21 k e w = vcK P b8_21 k e w := rfl
abbrev b8_22 : X := (.seq (.blk 3 (.seq (.reg [5, 8, 12, 31, 249, 250] (.c (.q 252 [] (.mv (.t 250))) (.c (.q 31 [] (.mv (.t 252))) .nil))) t8_20)) t8_21)
def t8_22 := b8_22
theorem u8_22 : vcK P t8_22 k e w = vcK P b8_22 k e w := rfl
abbrev b8_23 : X := (.seq (.cond (.t 251) .skip (.exit 2)) t8_22)
def t8_23 := b8_23
theorem u8_23 : vcK P t8_23 k e w = vcK P b8_23 k e w := rfl
abbrev b8_24 : X := (.seq (.reg [5, 8, 12, 249, 250, 251] (.c (.q 251 [] (.bin .lss (.t 250) (.t 249))) .nil)) t8_23)
def t8_24 := b8_24
theorem u8_24 : vcK P t8_24 k e w = vcK P b8_24 k e w := rfl
abbrev b8_25 : X := (.blk 2 (.loop [250] [5, 8, 12, 249] t8_24))
def t8_25 := b8_25
theorem u8_25 : vcK P t8_25 k e w = vcK P b8_25 k e w := rfl
abbrev b8_26 : X := (.seq (.reg [4] (.c (.q 4 [] (.mv (.c (.bool true)))) .nil)) .ret)
def t8_26 := b8_26
theorem u8_26 : vcK P t8_26 k e w = vcK P b8_26 k e w := rfl
abbrev b8_27 : X := (.seq (.seq (.reg [5, 8, 12, 249, 250] (.c (.q 248 [] (.mv (.t 12))) (.c (.q 249 [] (.lens (.t 248))) (.c (.q 250 [] (.mv (.c (.int .i64 0)))) .nil)))) t8_25) t8_26)
def t8_27 := b8_27
theorem u8_27 : vcK P t8_27 k e w = vcK P b8_27 k e w := rfl
abbrev b8_28 : X := (.seq (.seq (.reg [5, 8, 12, 247] (.c (.q 239 [] (.mv (.t 12))) (.c (.q 240 [] (.lens (.t 239))) (.c (.q 241 [] (.mv (.t 7))) (.c (.q 242 [] (.len (.t 241))) (.c (.q 243 [] (.fa 2 (.t 5))) (.c (.q 244 [] (.ld (.t 243))) (.c (.q 245 [] (.lens (.t 244))) (.c (.q 246 [] (.bin .mul (.t 242) (.t 245))) (.c (.q 247 [] (.bin .neq (.t 240) (.t 246))) .nil)))))))))) t8_14) t8_27)
def t8_28 := b8_28
theorem u8_28 : vcK P t8_28 k e w = vcK P b8_28 k e w := rfl
abbrev b8_29 : X := (.seq (.seq (.reg [5, 7, 8, 12, 231] (.c (.q 230 [] (.mv (.t 13))) (.c (.q 231 [] (.not (.t 230))) .nil))) t8_13) t8_28)
def t8_29 := b8_29
theorem u8_29 : vcK P t8_29 k e w = vcK P b8_29 k e w := rfl
abbrev b8_30 : X := (.seq (.seq (.reg [5, 6, 7, 8, 12, 13, 191] (.c (.q 190 [] (.mv (.t 7))) (.c (.e (some 191) [] (.rng (.t 190))) .nil))) t8_12) t8_29)
def t8_30 := b8_30
theorem u8_30 : vcK P t8_30 k e w = vcK P b8_30 k e w := rfl
abbrev b8_31 : X := (.seq (.seq (.reg [5, 6, 7, 8, 12, 13, 189] (.c (.q 157 [] (.mv (.t 25))) (.c (.q 158 [] (.not (.t 157))) (.c (.q 159 [] (.mv (.t 158))) (.c (.q 160 [(159, false)] (.mv (.t 8))) (.c (.q 161 [(159, false)] (.lens (.t 160))) (.c (.q 162 [(159, false)] (.mv (.t 7))) (.c (.q 163 [(159, false)] (.len (.t 162))) (.c (.q 164 [(159, false)] (.bin .add (.t 163) (.c (.int .i64 1)))) (.c (.q 165 [(159, false)] (.bin .neq (.t 161) (.t 164))) (.c (.q 166 [] (.pick (.t 159) (.c (.bool true)) (.t 165))) (.c (.q 167 [] (.mv (.t 166))) (.c (.q 168 [(167, false)] (.mv (.t 8))) (.c (.q 169 [(167, false)] (.ia 1 (.t 168) (.c (.int .i64 0)))) (.c (.q 170 [(167, false)] (.ld (.t 169))) (.c (.q 171 [(167, false)] (.mv (.t 24))) (.c (.q 172 [(167, false)] (.bin .neq (.t 170) (.t 171))) (.c (.q 173 [] (.pick (.t 167) (.c (.bool true)) (.t 172))) (.c (.q 174 [] (.mv (.t 173))) (.c (.q 175 [(174, false)] (.mv (.t 8))) (.c (.q 176 [(174, false)] (.mv (.t 7))) (.c (.q 177 [(174, false)] (.len (.t 176))) (.c (.q 178 [(174, false)] (.ia 1 (.t 175) (.t 177))) (.c (.q 179 [(174, false)] (.ld (.t 178))) (.c (.q 180 [(174, false)] (.mv (.t 16))) (.c (.q 181 [(174, false)] (.bin .neq (.t 179) (.t 180))) (.c (.q 182 [] (.pick (.t 174) (.c (.bool true)) (.t 181))) (.c (.q 183 [] (.mv (.t 182))) (.c (.q 184 [(183, false)] (.mv (.t 20))) (.c (.q 185 [(183, false)] (.mv (.t 16))) (.c (.q 186 [(183, false)] (.mv (.t 24))) (.c (.q 187 [(183, false)] (.bin .eql (.t 185) (.t 186))) (.c (.q 188 [(183, false)] (.beq true (.t 184) (.t 187))) (.c (.q 189 [] (.pick (.t 183) (.c (.bool true)) (.t 188))) .nil)))))))))))))))))))))))))))))))))) t8_4) t8_30)
def t8_31 := b8_31
theorem u8_31 : vcK P t8_31 k e w = vcK P b8_31 k e w := rfl
abbrev b8_32 : X := (.seq (.reg [5, 6, 7, 8, 12, 13, 16, 20, 24, 25] (.c (.q 152 [] (.fa 1 (.t 5))) (.c (.q 153 [] (.ld (.t 152))) (.c (.e (some 154) [] (.call false 84 [(.t 153)])) (.c (.q 151 [] (.mv (.t 154))) (.c (.q 155 [] (.ext 0 (.t 151))) (.c (.q 156 [] (.ext 1 (.t 151))) (.c (.q 24 [] (.mv (.t 155))) (.c (.q 25 [] (.mv (.t 156))) .nil))))))))) t8_31)
def t8_32 := b8_32
theorem u8_32 : vcK P t8_32 k e w = vcK P b8_32 k e w := rfl
abbrev b8_33 : X := (.seq (.seq (.reg [5, 6, 7, 8, 12, 13, 16, 20, 150] (.c (.q 149 [] (.mv (.t 9))) (.c (.q 150 [] (.not (.t 149))) .nil))) t8_3) t8_32)
def t8_33 := b8_33
theorem u8_33 : vcK P t8_33 k e w = vcK P b8_33 k e w := rfl
abbrev b8_34 : X := (.seq (.seq (.reg [5, 6, 7, 8, 9, 12, 13, 16, 20, 148] (.c (.q 102 [] (.mv (.t 9))) (.c (.q 103 [] (.mv (.t 11))) (.c (.q 104 [] (.beq true (.t 102) (.t 103))) (.c (.q 105 [] (.mv (.t 104))) (.c (.q 106 [(105, false)] (.mv (.t 8))) (.c (.q 107 [(105, false)] (.mv (.t 10))) (.c (.e (some 108) [(105, false)] (.call false 81 [(.t 106), (.t 107)])) (.c (.q 109 [(105, false)] (.not (.t 108))) (.c (.q 110 [] (.pick (.t 105) (.c (.bool true)) (.t 109))) (.c (.q 111 [] (.mv (.t 110))) (.c (.q 112 [(111, false)] (.mv (.t 13))) (.c (.q 113 [(111, false)] (.mv (.t 15))) (.c (.q 114 [(111, false)] (.beq true (.t 112) (.t 113))) (.c (.q 115 [] (.pick (.t 111) (.c (.bool true)) (.t 114))) (.c (.q 116 [] (.mv (.t 115))) (.c (.q 117 [(116, false)] (.mv (.t 12))) (.c (.q 118 [(116, false)] (.mv (.t 14))) (.c (.e (some 119) [(116, false)] (.call false 81 [(.t 117), (.t 118)])) (.c (.q 120 [(116, false)] (.not (.t 119))) (.c (.q 121 [] (.pick (.t 116) (.c (.bool true)) (.t 120))) (.c (.q 122 [] (.mv (.t 121))) (.c (.q 123 [(122, false)] (.mv (.t 17))) (.c (.q 124 [(122, false)] (.mv (.t 19))) (.c (.q 125 [(122, false)] (.beq true (.t 123) (.t 124))) (.c (.q 126 [] (.pick (.t 122) (.c (.bool true)) (.t 125))) (.c (.q 127 [] (.mv (.t 126))) (.c (.q 128 [(127, false)] (.mv (.t 16))) (.c (.q 129 [(127, false)] (.mv (.t 18))) (.c (.q 130 [(127, false)] (.bin .neq (.t 128) (.t 129))) (.c (.q 131 [] (.pick (.t 127) (.c (.bool true)) (.t 130))) (.c (.q 132 [] (.mv (.t 131))) (.c (.q 133 [(132, false)] (.mv (.t 21))) (.c (.q 134 [(132, false)] (.mv (.t 23))) (.c (.q 135 [(132, false)] (.beq true (.t 133) (.t 134))) (.c (.q 136 [] (.pick (.t 132) (.c (.bool true)) (.t 135))) (.c (.q 137 [] (.mv (.t 136))) (.c (.q 138 [(137, false)] (.mv (.t 20))) (.c (.q 139 [(137, false)] (.mv (.t 22))) (.c (.q 140 [(137, false)] (.beq true (.t 138) (.t 139))) (.c (.q 141 [] (.pick (.t 137) (.c (.bool true)) (.t 140))) (.c (.q 142 [] (.mv (.t 141))) (.c (.q 143 [(142, false)] (.mv (.t 7))) (.c (.e (some 144) [(142, false)] (.call false 82 [(.t 143)])) (.c (.q 145 [(142, false)] (.mv (.t 7))) (.c (.e (some 146) [(142, false)] (.call false 83 [(.t 145)])) (.c (.q 147 [(142, false)] (.beq true (.t 144) (.t 146))) (.c (.q 148 [] (.pick (.t 142) (.c (.bool true)) (.t 147))) .nil)))))))))))))))))))))))))))))))))))))))))))))))) t8_2) t8_33)
def t8_34 := b8_34
theorem u8_34 : vcK P t8_34 k e w = vcK P b8_34 k e w := rfl
abbrev b8_35 : X := (.seq (.reg [5, 6, 7, 8, 9, 10, 11, 12, 13, 14, 15, 16, 17, 18, 19, 20, 21, 22, 23] (.c (.q 96 [] (.lda 3 (.t 5))) (.c (.q 97 [] (.lda 2 (.t 6))) (.c (.q 98 [] (.mv (.t 7))) (.c (.e (some 99) [] (.call false 28 [(.t 96), (.t 97), (.t 98)])) (.c (.q 95 [] (.mv (.t 99))) (.c (.q 100 [] (.ext 0 (.t 95))) (.c (.q 101 [] (.ext 1 (.t 95))) (.c (.q 22 [] (.mv (.t 100))) (.c (.q 23 [] (.mv (.t 101))) .nil)))))))))) t8_34)
def t8_35 := b8_35
theorem u8_35 : vcK P t8_35 k e w = vcK P b8_35 k e w := rfl
abbrev b8_36 : X := (.seq (.reg [5, 6, 7, 8, 9, 10, 11, 12, 13, 14, 15, 16, 17, 18, 19, 20, 21] (.c (.q 89 [] (.lda 3 (.t 5))) (.c (.q 90 [] (.lda 2 (.t 6))) (.c (.q 91 [] (.mv (.t 7))) (.c (.e (some 92) [] (.call false 27 [(.t 89), (.t 90), (.t 91)])) (.c (.q 88 [] (.mv (.t 92))) (.c (.q 93 [] (.ext 0 (.t 88))) (.c (.q 94 [] (.ext 1 (.t 88))) (.c (.q 20 [] (.mv (.t 93))) (.c (.q 21 [] (.mv (.t 94))) .nil)))))))))) t8_35)
def t8_36 := b8_36
theorem u8_36 : vcK P t8_36 k e w = vcK P b8_36 k e w := rfl
abbrev b8_37 : X := (.seq (.reg [5, 6, 7, 8, 9, 10, 11, 12, 13, 14, 15, 16, 17, 18, 19] (.c (.q 82 [] (.lda 3 (.t 5))) (.c (.q 83 [] (.lda 2 (.t 6))) (.c (.q 84 [] (.mv (.t 7))) (.c (.e (some 85) [] (.call false 80 [(.t 82), (.t 83), (.t 84)])) (.c (.q 81 [] (.mv (.t 85))) (.c (.q 86 [] (.ext 0 (.t 81))) (.c (.q 87 [] (.ext 1 (.t 81))) (.c (.q 18 [] (.mv (.t 86))) (.c (.q 19 [] (.mv (.t 87))) .nil)))))))))) t8_36)
def t8_37 := b8_37
theorem u8_37 : vcK P t8_37 k e w = vcK P b8_37 k e w := rfl
abbrev b8_38 : X := (.seq (.reg [5, 6, 7, 8, 9, 10, 11, 12, 13, 14, 15, 16, 17] (.c (.q 75 [] (.lda 3 (.t 5))) (.c (.q 76 [] (.lda 2 (.t 6))) (.c (.q 77 [] (.mv (.t 7))) (.c (.e (some 78) [] (.call false 79 [(.t 75), (.t 76), (.t 77)])) (.c (.q 74 [] (.mv (.t 78))) (.c (.q 79 [] (.ext 0 (.t 74))) (.c (.q 80 [] (.ext 1 (.t 74))) (.c (.q 16 [] (.mv (.t 79))) (.c (.q 17 [] (.mv (.t 80))) .nil)))))))))) t8_37)
def t8_38 := b8_38
theorem u8_38 : vcK P t8_38 k e w = vcK P b8_38 k e w := rfl
abbrev b8_39 : X := (.seq (.reg [5, 6, 7, 8, 9, 10, 11, 12, 13, 14, 15] (.c (.q 68 [] (.lda 3 (.t 5))) (.c (.q 69 [] (.lda 2 (.t 6))) (.c (.q 70 [] (.mv (.t 7))) (.c (.e (some 71) [] (.call false 78 [(.t 68), (.t 69), (.t 70)])) (.c (.q 67 [] (.mv (.t 71))) (.c (.q 72 [] (.ext 0 (.t 67))) (.c (.q 73 [] (.ext 1 (.t 67))) (.c (.q 14 [] (.mv (.t 72))) (.c (.q 15 [] (.mv (.t 73))) .nil)))))))))) t8_38)
def t8_39 := b8_39
theorem u8_39 : vcK P t8_39 k e w = vcK P b8_39 k e w := rfl
abbrev b8_40 : X := (.seq (.reg [5, 6, 7, 8, 9, 10, 11, 12, 13] (.c (.q 61 [] (.lda 3 (.t 5))) (.c (.q 62 [] (.lda 2 (.t 6))) (.c (.q 63 [] (.mv (.t 7))) (.c (.e (some 64) [] (.call false 77 [(.t 61), (.t 62), (.t 63)])) (.c (.q 60 [] (.mv (.t 64))) (.c (.q 65 [] (.ext 0 (.t 60))) (.c (.q 66 [] (.ext 1 (.t 60))) (.c (.q 12 [] (.mv (.t 65))) (.c (.q 13 [] (.mv (.t 66))) .nil)))))))))) t8_39)
def t8_40 := b8_40
theorem u8_40 : vcK P t8_40 k e w = vcK P b8_40 k e w := rfl
abbrev b8_41 : X := (.seq (.reg [5, 6, 7, 8, 9, 10, 11] (.c (.q 54 [] (.lda 3 (.t 5))) (.c (.q 55 [] (.lda 2 (.t 6))) (.c (.q 56 [] (.mv (.t 7))) (.c (.e (some 57) [] (.call false 76 [(.t 54), (.t 55), (.t 56)])) (.c (.q 53 [] (.mv (.t 57))) (.c (.q 58 [] (.ext 0 (.t 53))) (.c (.q 59 [] (.ext 1 (.t 53))) (.c (.q 10 [] (.mv (.t 58))) (.c (.q 11 [] (.mv (.t 59))) .nil)))))))))) t8_40)
def t8_41 := b8_41
theorem u8_41 : vcK P t8_41 k e w = vcK P b8_41 k e w := rfl
abbrev b8_42 : X := (.seq (.reg [5, 6, 7, 8, 9] (.c (.q 47 [] (.lda 3 (.t 5))) (.c (.q 48 [] (.lda 2 (.t 6))) (.c (.q 49 [] (.mv (.t 7))) (.c (.e (some 50) [] (.call false 75 [(.t 47), (.t 48), (.t 49)])) (.c (.q 46 [] (.mv (.t 50))) (.c (.q 51 [] (.ext 0 (.t 46))) (.c (.q 52 [] (.ext 1 (.t 46))) (.c (.q 8 [] (.mv (.t 51))) (.c (.q 9 [] (.mv (.t 52))) .nil)))))))))) t8_41)
def t8_42 := b8_42
theorem u8_42 : vcK P t8_42 k e w = vcK P b8_42 k e w := rfl
abbrev b8_43 : X := (.seq (.reg [5, 6, 7] (.c (.q 41 [] (.mv (.t 0))) (.c (.e (some 42) [] (.call false 74 [(.t 41)])) (.c (.q 40 [] (.mv (.t 42))) (.c (.q 43 [] (.ext 0 (.t 40))) (.c (.q 44 [] (.ext 1 (.t 40))) (.c (.q 45 [] (.ext 2 (.t 40))) (.c (.e (some 5) [] (.al 41 [(S []), (.int .i64 0), (.slice none 0 0)])) (.c (.e (some 6) [] (.al 32 [(S []), (S [])])) (.c (.e none [] (.st 3 (.t 5) (.t 43))) (.c (.e none [] (.st 2 (.t 6) (.t 44))) (.c (.q 7 [] (.mv (.t 45))) .nil)))))))))))) t8_42)
def t8_43 := b8_43
theorem u8_43 : vcK P t8_43 k e w = vcK P b8_43 k e w := rfl
abbrev b8_44 : X := (.seq (.seq (.reg [0, 39] (.c (.q 34 [] (.mv (.t 0))) (.c (.q 35 [] (.lens (.t 34))) (.c (.q 36 [] (.mv (.t 1))) (.c (.q 37 [] (.lens (.t 36))) (.c (.q 38 [] (.bin .add (.t 35) (.t 37))) (.c (.q 39 [] (.bin .gtr (.t 38) (.c (.int .i64 1048576)))) .nil))))))) t8_1) t8_43)
def t8_44 := b8_44
theorem u8_44 : vcK P t8_44 k e w = vcK P b8_44 k e w := rfl
abbrev b8_0 : X := (.seq (.reg [0, 1] (.c (.q 4 [] (.mv (.c (.bool false)))) .nil)) t8_44)
def x_lFnTouch := b8_0
theorem u8_0 : vcK P x_lFnTouch k e w = vcK P b8_0 k e w := rfl
def r_lFnTouch : List XO := [(.mv (.t 4))]
theorem c_lFnTouch : convF Try.prog [169, 170, 207, 208, 210, 227, 232, 233, 255, 259, 268, 269, 270, 280, 281, 296, 299, 306, 307, 309] Try.f8 [([0, 1], []), ([0, 39], []), ([4], []), ([5, 6, 7], []), ([5, 6, 7, 8, 9], []), ([5, 6, 7, 8, 9, 10, 11], []), ([5, 6, 7, 8, 9, 10, 11, 12, 13], []), ([5, 6, 7, 8, 9, 10, 11, 12, 13, 14, 15], []), ([5, 6, 7, 8, 9, 10, 11, 12, 13, 14, 15, 16, 17], []), ([5, 6, 7, 8, 9, 10, 11, 12, 13, 14, 15, 16, 17, 18, 19], []), ([5, 6, 7, 8, 9, 10, 11, 12, 13, 14, 15, 16, 17, 18, 19, 20, 21], []), ([5, 6, 7, 8, 9, 10, 11, 12, 13, 14, 15, 16, 17, 18, 19, 20, 21, 22, 23], []), ([5, 6, 7, 8, 9, 12, 13, 16, 20, 148], []), ([4], []), ([5, 6, 7, 8, 12, 13, 16, 20, 150], []), ([4], []), ([5, 6, 7, 8, 12, 13, 16, 20, 24, 25], []), ([5, 6, 7, 8, 12, 13, 189], []), ([4], []), ([5, 6, 7, 8, 12, 13, 191], []), ([], [5, 6, 7, 8, 12, 13, 191]), ([5, 6, 7, 8, 12, 13, 191, 192, 193], []), ([5, 6, 7, 8, 12, 13, 26, 191], []), ([5, 6, 7, 8, 12, 13, 26, 27, 28, 191], []), ([5, 6, 7, 8, 12, 13, 26, 28, 29, 30, 191], []), ([5, 6, 7, 8, 12, 13, 191, 229], []), ([4], []), ([5, 7, 8, 12, 231], []), ([4], []), ([5, 8, 12, 247], []), ([4], []), ([5, 8, 12, 249, 250], []), ([250], [5, 8, 12, 249]), ([5, 8, 12, 249, 250, 251], []), ([5, 8, 12, 31, 249, 250], []), ([5, 8, 12, 31, 249, 250, 273], []), ([4], []), ([5, 8, 12, 31, 249, 250, 279], []), ([5, 8, 12, 31, 32, 33, 249, 250], []), ([5, 8, 12, 249, 250, 308], []), ([4], []), ([5, 8, 12, 249, 250], []), ([4], [])] = some (x_lFnTouch, r_lFnTouch) := by kernel_rfl
def us_lFnTouch := aI @u8_0 (aI @u8_1 (aI @u8_2 (aI @u8_3 (aI @u8_4 (aI @u8_5 (aI @u8_6 (aI @u8_7 (aI @u8_8 (aI @u8_9 (aI @u8_10 (aI @u8_11 (aI @u8_12 (aI @u8_13 (aI @u8_14 (aI @u8_15 (aI @u8_16 (aI @u8_17 (aI @u8_18 (aI @u8_19 (aI @u8_20 (aI @u8_21 (aI @u8_22 (aI @u8_23 (aI @u8_24 (aI @u8_25 (aI @u8_26 (aI @u8_27 (aI @u8_28 (aI @u8_29 (aI @u8_30 (aI @u8_31 (aI @u8_32 (aI @u8_33 (aI @u8_34 (aI @u8_35 (aI @u8_36 (aI @u8_37 (aI @u8_38 (aI @u8_39 (aI @u8_40 (aI @u8_41 (aI @u8_42 (aI @u8_43 @u8_44)))))))))))))))))))))))))))))))))))))))))))
end

def endX (nm : List UInt8) (st : Int) (cs : List (List UInt8)) (b s t : List UInt8) : List UInt8 := if IsMT nm st cs b s t then headP st.toNat cs b s t t.length else []
def rndX (nm : List UInt8) (st : Int) (cs : List (List UInt8)) (b s t : List UInt8) : Bool := decide (IsMT nm st cs b s t ∧ headP st.toNat cs b s t t.length = roundsL st.toNat)
theorem endV_eq (nm : List UInt8) (st : Int) (cs : List (List UInt8)) (b s t : List UInt8) : endV nm st cs b s t = .tuple ⟨[S (endX nm st cs b s t), .bool (decide (IsMT nm st cs b s t))]⟩ := by
  unfold endV endX
  split <;> simp [*]
theorem rndV_eq (nm : List UInt8) (st : Int) (cs : List (List UInt8)) (b s t : List UInt8) : rndV nm st cs b s t = .tuple ⟨[.bool (rndX nm st cs b s t), .bool (decide (IsMT nm st cs b s t))]⟩ := by
  unfold rndV rndX
  split <;> simp [*]
theorem leadsL_get (cs : List (List UInt8)) (hL : 0 < cs.length) : ∀ (hs : List (List UInt8)) (n : Nat), n < hs.length * cs.length → (leadsL cs hs).getD n [] = underL (hs.getD (n / cs.length) []) (cs.take (n % cs.length)) := by
  intro hs
  induction hs with
  | nil => intro n h; simp at h
  | cons h hs ih =>
    intro n hn
    have e : leadsL cs (h :: hs) = rowsU h cs cs.length ++ leadsL cs hs := rfl
    rw [e]
    by_cases hlt : n < cs.length
    · rw [List.getD_eq_getElem?_getD, List.getElem?_append_left (by rw [rowsU_len]; exact hlt), ← List.getD_eq_getElem?_getD, rowsU_get _ _ _ _ hlt, Nat.div_eq_of_lt hlt, Nat.mod_eq_of_lt hlt]
      rfl
    · have h1 : n - cs.length < hs.length * cs.length := by rw [List.length_cons, Nat.add_mul] at hn; omega
      have h2 := ih (n - cs.length) h1
      rw [List.getD_eq_getElem?_getD, List.getElem?_append_right (by rw [rowsU_len]; omega), rowsU_len, ← List.getD_eq_getElem?_getD, h2]
      have hd : n / cs.length = (n - cs.length) / cs.length + 1 := by
        rw [Nat.div_eq_sub_div hL (by omega)]
      have hm : n % cs.length = (n - cs.length) % cs.length := by rw [Nat.mod_eq_sub_mod (by omega)]
      rw [hd, hm, List.getD_cons_succ]
set_option maxHeartbeats 4000000 in
theorem lFnTouch_ok (v u : Value) (code more : List UInt8) (hcl : code.length ≤ 140737488355328) (hml : more.length ≤ 140737488355328) (w : World) (h : Sq fU 1 w v code) (h' : Sq fU 1 w u more) : Fn 8 [v, u] w (fun r _ => r = .bool true) := by
  (refine callsV_of mix Try.func8 c_lFnTouch ?_; simp only [↓vsd, vsn, gW, qd, qv, ev, pick, argE, zipE, ne_eq, eq_self, forall_const, implies_true, if_true, if_false, reduceIte, reduceCtorEq, Nat.reduceEqDiff, Nat.reduceAdd, Nat.reduceLT, ↓us_lFnTouch, r_lFnTouch])
  simp only [↓vsd, vsn, gW, qd, qv, ev, pick, argE, zipE, ne_eq, eq_self, forall_const, implies_true, if_true, if_false, reduceIte, reduceCtorEq, Nat.reduceEqDiff, Nat.reduceAdd, Nat.reduceLT, ↓us_lFnTouch, r_lFnTouch, h.facts, h'.facts]
  refine ⟨inR_i64 (by omega), fun _ => Ext.refl _, fun hsm => ?_⟩
  have hlen : code.length ≤ 1048576 ∧ more.length ≤ 1048576 := by omega
  refine m_call (sDrawTouchRows_ok v code hlen.1 _ h) ?_
  rintro _ w1 hx1 ⟨nm, st, x, cs, b, s, t, rfl, ho1, hnm, hst, hcs, hc8, hbs, ht⟩
  simp only [↓vsd, vsn, gW, qd, qv, ev, pick, argE, zipE, ne_eq, eq_self, forall_const, implies_true, if_true, if_false, reduceIte, reduceCtorEq, Nat.reduceEqDiff, Nat.reduceAdd, Nat.reduceLT, ↓us_lFnTouch, r_lFnTouch]
  refine m_al ?_
  rintro bm w2 hbm hblk2 hx2 hs2
  simp only [↓vsd, vsn, gW, qd, qv, ev, pick, argE, zipE, ne_eq, eq_self, forall_const, implies_true, if_true, if_false, reduceIte, reduceCtorEq, Nat.reduceEqDiff, Nat.reduceAdd, Nat.reduceLT, ↓us_lFnTouch, r_lFnTouch]
  refine m_al ?_
  rintro bk w3 hbk hblk3 hx3 hs3
  simp only [↓vsd, vsn, gW, qd, qv, ev, pick, argE, zipE, ne_eq, eq_self, forall_const, implies_true, if_true, if_false, reduceIte, reduceCtorEq, Nat.reduceEqDiff, Nat.reduceAdd, Nat.reduceLT, ↓us_lFnTouch, r_lFnTouch]
  refine m_st (Blk.ext hblk2 hx3) rfl (Nat.le_refl 3) (fM_one nm st x ho1.sq.one') ?_
  rintro w4 hblk4 hu4
  have hm4 : Blk w4 bm (fM nm st x) 41 := hblk4
  simp only [↓vsd, vsn, gW, qd, qv, ev, pick, argE, zipE, ne_eq, eq_self, forall_const, implies_true, if_true, if_false, reduceIte, reduceCtorEq, Nat.reduceEqDiff, Nat.reduceAdd, Nat.reduceLT, ↓us_lFnTouch, r_lFnTouch]
  refine m_st (hu4.blk hblk3 (by omega)) rfl (Nat.le_refl 2) (fQ_one b s) ?_
  rintro w5 hblk5 hu5
  have hk5 : Blk w5 bk (fQ b s) 32 := hblk5
  have hm5 := hu5.blk hm4 (by omega)
  have ho5 := (((ho1.ext hx2).ext hx3).upd hu4 (ho1.away (by omega))).upd hu5 (ho1.away (by omega))
  have hx5 : Ext w w5 := hu5.below (hu4.below ((hx1.trans hx2).trans hx3) (by have := hx1.size; omega)) (by have := hx1.size; omega)
  have hnm' : nm.length ≤ 1048576 := by omega
  have hc8' : ∀ c ∈ cs, c.length ≤ 1048576 := fun c hc => by have := hc8 c hc; omega
  have hcs' : cs.length ≤ 1000000000 := by omega
  have hbs' : b.length ≤ 1048576 ∧ s.length ≤ 1048576 := by omega
  have ht' : t.length ≤ 1000000000 := by omega
  simp only [↓vsd, vsn, gW, qd, qv, ev, pick, argE, zipE, ne_eq, eq_self, forall_const, implies_true, if_true, if_false, reduceIte, reduceCtorEq, Nat.reduceEqDiff, Nat.reduceAdd, Nat.reduceLT, ↓us_lFnTouch, r_lFnTouch, hm5.facts, hk5.facts, fMg, fQg]
  refine m_call (iTouchHeads_ok nm st x cs b s t hnm' hc8' hcs' hbs' ht' _ ho5.sq) ?_
  rintro _ w6 hx6 ⟨yh, rfl, hoh⟩
  have hm6 := hm5.ext hx6
  have hk6 := hk5.ext hx6
  have ho6 := ho5.ext hx6
  simp only [↓vsd, vsn, gW, qd, qv, ev, pick, argE, zipE, ne_eq, eq_self, forall_const, implies_true, if_true, if_false, reduceIte, reduceCtorEq, Nat.reduceEqDiff, Nat.reduceAdd, Nat.reduceLT, ↓us_lFnTouch, r_lFnTouch, hm6.facts, hk6.facts, fMg, fQg]
  refine m_call (sTouchHeads_ok nm st x cs b s t hnm' hc8' hcs' hbs' ht' _ ho6.sq) ?_
  rintro _ w7 hx7 ⟨yh2, rfl, hoh2⟩
  have hm7 := hm6.ext hx7
  have hk7 := hk6.ext hx7
  have ho7 := ho6.ext hx7
  simp only [↓vsd, vsn, gW, qd, qv, ev, pick, argE, zipE, ne_eq, eq_self, forall_const, implies_true, if_true, if_false, reduceIte, reduceCtorEq, Nat.reduceEqDiff, Nat.reduceAdd, Nat.reduceLT, ↓us_lFnTouch, r_lFnTouch, hm7.facts, hk7.facts, fMg, fQg]
  refine m_call (iTouchRows_ok nm st x cs b s t hnm' hc8' hcs' hbs' ht' _ ho7.sq) ?_
  rintro _ w8 hx8 ⟨yr, rfl, hor⟩
  have hm8 := hm7.ext hx8
  have hk8 := hk7.ext hx8
  have ho8 := ho7.ext hx8
  simp only [↓vsd, vsn, gW, qd, qv, ev, pick, argE, zipE, ne_eq, eq_self, forall_const, implies_true, if_true, if_false, reduceIte, reduceCtorEq, Nat.reduceEqDiff, Nat.reduceAdd, Nat.reduceLT, ↓us_lFnTouch, r_lFnTouch, hm8.facts, hk8.facts, fMg, fQg]
  refine m_call (sTouchRows_ok nm st x cs b s t hnm' hc8' hcs' hbs' ht' _ ho8.sq) ?_
  rintro _ w9 hx9 ⟨yr2, rfl, hor2⟩
  have hm9 := hm8.ext hx9
  have hk9 := hk8.ext hx9
  have ho9 := ho8.ext hx9
  simp only [↓vsd, vsn, gW, qd, qv, ev, pick, argE, zipE, ne_eq, eq_self, forall_const, implies_true, if_true, if_false, reduceIte, reduceCtorEq, Nat.reduceEqDiff, Nat.reduceAdd, Nat.reduceLT, ↓us_lFnTouch, r_lFnTouch, hm9.facts, hk9.facts, fMg, fQg]
  refine m_call (iTouchEnd_ok nm st x cs b s t hnm' hc8' hcs' hbs' ht' _ ho9.sq) ?_
  rintro re w10 hx10 hre
  rw [endV_eq] at hre
  subst hre
  have hm10 := hm9.ext hx10
  have hk10 := hk9.ext hx10
  have ho10 := ho9.ext hx10
  simp only [↓vsd, vsn, gW, qd, qv, ev, pick, argE, zipE, ne_eq, eq_self, forall_const, implies_true, if_true, if_false, reduceIte, reduceCtorEq, Nat.reduceEqDiff, Nat.reduceAdd, Nat.reduceLT, ↓us_lFnTouch, r_lFnTouch, hm10.facts, hk10.facts, fMg, fQg]
  refine m_call (sTouchEnd_ok nm st x cs b s t hnm' hc8' hcs' hbs' ht' _ ho10.sq) ?_
  rintro re w11 hx11 hre
  rw [endV_eq] at hre
  subst hre
  have hm11 := hm10.ext hx11
  have hk11 := hk10.ext hx11
  have ho11 := ho10.ext hx11
  simp only [↓vsd, vsn, gW, qd, qv, ev, pick, argE, zipE, ne_eq, eq_self, forall_const, implies_true, if_true, if_false, reduceIte, reduceCtorEq, Nat.reduceEqDiff, Nat.reduceAdd, Nat.reduceLT, ↓us_lFnTouch, r_lFnTouch, hm11.facts, hk11.facts, fMg, fQg]
  refine m_call (iIsRound_ok nm st x cs b s t hnm' hc8' hcs' hbs' ht' _ ho11.sq) ?_
  rintro re w12 hx12 hre
  rw [rndV_eq] at hre
  subst hre
  have hm12 := hm11.ext hx12
  have hk12 := hk11.ext hx12
  have ho12 := ho11.ext hx12
  simp only [↓vsd, vsn, gW, qd, qv, ev, pick, argE, zipE, ne_eq, eq_self, forall_const, implies_true, if_true, if_false, reduceIte, reduceCtorEq, Nat.reduceEqDiff, Nat.reduceAdd, Nat.reduceLT, ↓us_lFnTouch, r_lFnTouch, hm12.facts, hk12.facts, fMg, fQg]
  refine m_call (sIsRound_ok nm st x cs b s t hnm' hc8' hcs' hbs' ht' _ ho12.sq) ?_
  rintro re w13 hx13 hre
  rw [rndV_eq] at hre
  subst hre
  have hm13 := hm12.ext hx13
  have hk13 := hk12.ext hx13
  have ho13 := ho12.ext hx13
  have hx713 := ((((hx8.trans hx9).trans hx10).trans hx11).trans hx12).trans hx13
  have hx513 := (hx6.trans hx7).trans hx713
  have hoh := (hoh.ext hx7).ext hx713
  have hoh2 := hoh2.ext hx713
  have hor := hor.ext ((((hx9.trans hx10).trans hx11).trans hx12).trans hx13)
  have hor2 := hor2.ext (((hx10.trans hx11).trans hx12).trans hx13)
  have hLh : (headsV nm st cs b s t).length ≤ 1000000000 := by unfold headsV; split <;> simp [headsP_len]; omega
  have hLr : (rowsV nm st cs b s t).length ≤ 1000000000 := by
    unfold rowsV
    split
    · rename_i hh
      rw [rowsT, leadsL_len, headsP_len]
      have := hh.2; omega
    · simp
  simp only [↓vsd, vsn, gW, qd, qv, ev, pick, argE, zipE, ne_eq, eq_self, forall_const, implies_true, if_true, if_false, reduceIte, reduceCtorEq, Nat.reduceEqDiff, Nat.reduceAdd, Nat.reduceLT, ↓us_lFnTouch, r_lFnTouch]
  refine m_call (lqSameS_ok yh yh2 _ _ _ hoh.sq hoh2.sq hLh) ?_
  rintro _ w14 hx14 rfl
  simp only [↓vsd, vsn, gW, qd, qv, ev, pick, argE, zipE, ne_eq, eq_self, forall_const, implies_true, if_true, if_false, reduceIte, reduceCtorEq, Nat.reduceEqDiff, Nat.reduceAdd, Nat.reduceLT, ↓us_lFnTouch, r_lFnTouch]
  refine m_call (lqSameS_ok yr yr2 _ _ _ (hor.ext hx14).sq (hor2.ext hx14).sq hLr) ?_
  rintro _ w15 hx15 rfl
  simp only [↓vsd, vsn, gW, qd, qv, ev, pick, argE, zipE, ne_eq, eq_self, forall_const, implies_true, if_true, if_false, reduceIte, reduceCtorEq, Nat.reduceEqDiff, Nat.reduceAdd, Nat.reduceLT, ↓us_lFnTouch, r_lFnTouch]
  refine m_call (iGoodTouch_okt t ht' _) ?_
  rintro _ w16 hx16 rfl
  simp only [↓vsd, vsn, gW, qd, qv, ev, pick, argE, zipE, ne_eq, eq_self, forall_const, implies_true, if_true, if_false, reduceIte, reduceCtorEq, Nat.reduceEqDiff, Nat.reduceAdd, Nat.reduceLT, ↓us_lFnTouch, r_lFnTouch]
  refine m_call (sGoodTouch_ok t ht' _) ?_
  rintro _ w17 hx17 rfl
  have hx1417 := ((hx14.trans hx15).trans hx16).trans hx17
  have hm17 := hm13.ext hx1417
  have hk17 := hk13.ext hx1417
  have ho17 := ho13.ext hx1417
  have hoh17 := hoh.ext hx1417
  have hor17 := hor.ext hx1417
  have hx17' : Ext w w17 := (hx5.trans hx513).trans hx1417
  by_cases hM : IsMT nm st cs b s t
  · obtain ⟨n, rfl⟩ : ∃ n : Nat, st = n := ⟨st.toNat, by omega⟩
    have hMd := decide_eq_true hM
    have hcl := hM.1.1.2.2.1
    have ht60 := hM.2.1
    have h8 := hM.1.1.2.1
    have heX : endX nm n cs b s t = headP n cs b s t t.length := by rw [endX, if_pos hM]; rfl
    have hrX : rndX nm n cs b s t = decide (headP n cs b s t t.length = roundsL n) := by
      unfold rndX
      exact decide_eq_decide.2 ⟨fun hh => hh.2, fun hh => ⟨hM, hh⟩⟩
    rw [headsV, if_pos hM, Int.toNat_natCast] at hoh17
    have hll := headsP_len n cs b s t (t.length + 1)
    have hq := hoh17.sq
    simp only [↓vsd, vsn, gW, qd, qv, ev, pick, argE, zipE, ne_eq, eq_self, forall_const, implies_true, if_true, if_false, reduceIte, reduceCtorEq, Nat.reduceEqDiff, Nat.reduceAdd, Nat.reduceLT, ↓us_lFnTouch, r_lFnTouch, hMd, hm17.facts, fMg]
    refine m_call (sRoundsOf_ok n _) ?_
    rintro re w18 hx18 hre
    rw [roundsV, if_pos (by omega), Int.toNat_natCast] at hre
    subst hre
    have hq18 := hq.ext hx18
    have hg0 := headsP_get n cs b s t (t.length + 1) 0 (by omega)
    have hg1 := headsP_get n cs b s t (t.length + 1) t.length (by omega)
    have hlt0 : 0 < (headsP n cs b s t (t.length + 1)).length := by omega
    have hlt1 : t.length < (headsP n cs b s t (t.length + 1)).length := by omega
    rw [headP_zero] at hg0
    have hll' : ((headsP n cs b s t (t.length + 1)).length : Int) = (t.length : Int) + 1 := by omega
    simp only [↓vsd, vsn, gW, qd, qv, ev, pick, argE, zipE, ne_eq, eq_self, forall_const, implies_true, if_true, if_false, reduceIte, reduceCtorEq, Nat.reduceEqDiff, Nat.reduceAdd, Nat.reduceLT, ↓us_lFnTouch, r_lFnTouch, hq18.facts, hll', hq18.at0 [] hlt0, hq18.at1 [] hlt1, hg0, hg1, heX, hrX, headP_zero]
    refine ⟨inR_i64 (by omega), by omega, by omega, ?_⟩
    try simp only [forall_const, true_and, not_true_eq_false, false_implies, and_true, implies_true]
    refine m_rng ?_
    rintro bi w19 hbi hit19 hx19 hs19
    have hx1719 := hx18.trans hx19
    have h128 := tch_low hM.2
    simp only [↓vsd, vsn, gW, qd, qv, ev, pick, argE, zipE, ne_eq, eq_self, forall_const, implies_true, if_true, if_false, reduceIte, reduceCtorEq, Nat.reduceEqDiff, Nat.reduceAdd, Nat.reduceLT, ↓us_lFnTouch, r_lFnTouch]
    refine m_upto t.length (fun i vs w' => vs = [] ∧ Ext w18 w' ∧ Itr w' bi t i) ⟨rfl, hx19, hit19⟩ ?_
    rintro i vs w20 hi ⟨rfl, hx20, hit20⟩
    have hx1720 := hx18.trans hx20
    have hm20 := hm17.ext hx1720
    have hk20 := hk17.ext hx1720
    simp only [↓vsd, vsn, gW, qd, qv, ev, pick, argE, zipE, ne_eq, eq_self, forall_const, implies_true, if_true, if_false, reduceIte, reduceCtorEq, Nat.reduceEqDiff, Nat.reduceAdd, Nat.reduceLT, ↓us_lFnTouch, r_lFnTouch]
    refine m_nxt hit20 h128 ?_ ?_
    · intro hlt wa hita hua
      have hxa : Ext w18 wa := hua.below hx20 (by omega)
      have hx17a := hx18.trans hxa
      have hma := hm17.ext hx17a
      have hka := hk17.ext hx17a
      have hqa := hq.ext hx17a
      have hs1 := sub_one t i hlt
      simp only [↓vsd, vsn, gW, qd, qv, ev, pick, argE, zipE, ne_eq, eq_self, forall_const, implies_true, if_true, if_false, reduceIte, reduceCtorEq, Nat.reduceEqDiff, Nat.reduceAdd, Nat.reduceLT, ↓us_lFnTouch, r_lFnTouch, hma.facts, hka.facts, fMg, fQg]
      rw [hs1]
      refine ⟨inR_i64 (by omega), by omega, m_call (sCallHead_ok nm n x cs b s [t.getD i 0] hnm' hc8' hcs' hbs' _ (ho17.ext (by first | exact hx17a | exact dr hx17a)).sq) ?_⟩
      rintro re wb hxb hre
      rw [chV, if_pos (show CallOk nm n cs b s [t.getD i 0] from ⟨hM.1, hM.2.2 _ (getD_mem 0 hlt)⟩), Int.toNat_natCast] at hre
      subst hre
      have hxb : Ext wa wb := by first | exact hxb | exact ud hxb
      have hqb := hqa.ext hxb
      have hgi := headsP_get n cs b s t (t.length + 1) i (by omega)
      have hgi1 := headsP_get n cs b s t (t.length + 1) (i + 1) (by omega)
      have hlti : i < (headsP n cs b s t (t.length + 1)).length := by omega
      have hlti1 : i + 1 < (headsP n cs b s t (t.length + 1)).length := by omega
      have hP := headP_row hM.1 t i
      have hH := HD_row hM.1 (t.getD i 0)
      simp only [↓vsd, vsn, gW, qd, qv, ev, pick, argE, zipE, ne_eq, eq_self, forall_const, implies_true, if_true, if_false, reduceIte, reduceCtorEq, Nat.reduceEqDiff, Nat.reduceAdd, Nat.reduceLT, ↓us_lFnTouch, r_lFnTouch, hqb.facts, hll', hqb.at1 [] hlti, hgi]
      refine ⟨by omega, m_call (sTimes_ok _ _ _) ?_⟩
      rintro re wc hxc hre
      rw [timesV, if_pos (show IsRow (headP n cs b s t i) ∧ IsRow (headC n cs b s [t.getD i 0]) ∧ _ from ⟨hP.1, hH.1, by rw [hP.2]; exact hH.2.symm⟩)] at hre
      subst hre
      have hxc : Ext wb wc := by first | exact hxc | exact ud hxc
      have hqc := hqb.ext hxc
      have hsu := headP_succ n cs b s t i hlt
      have hi1 : ((i : Int) + 1) = ((i + 1 : Nat) : Int) := by omega
      have hHd : HD n cs b s (t.getD i 0) = headC n cs b s [t.getD i 0] := rfl
      rw [hHd] at hsu
      simp only [↓vsd, vsn, gW, qd, qv, ev, pick, argE, zipE, ne_eq, eq_self, forall_const, implies_true, if_true, if_false, reduceIte, reduceCtorEq, Nat.reduceEqDiff, Nat.reduceAdd, Nat.reduceLT, ↓us_lFnTouch, r_lFnTouch, hi1, hqc.facts, hll', hqc.at1 [] hlti1, hgi1, hsu]
      try simp only [forall_const, true_and, not_true_eq_false, false_implies, and_true, implies_true]
      exact ⟨inR_i64 (by omega), by omega, UpTo.next hlt ⟨rfl, (hxa.trans hxb).trans hxc, (hita.ext hxb).ext hxc⟩⟩
    · intro hge
      obtain rfl : i = t.length := by omega
      by_cases hR : RowsOk nm n cs b s t
      · have hRd := decide_eq_true hR
        rw [rowsV, if_pos hR, Int.toNat_natCast] at hor17
        have hrl : (rowsT n cs b s t).length = t.length * cs.length := by rw [rowsT, leadsL_len, headsP_len]
        have hqr := hor17.sq.ext hx1720
        have hq20 := hq.ext hx1720
        have hqm := (ho17.ext hx1720).sq
        have hrg : ∀ k, k < t.length * cs.length → (rowsT n cs b s t).getD k [] = underL (headP n cs b s t (k / cs.length)) (cs.take (k % cs.length)) := fun k hk => by
          rw [rowsT, leadsL_get cs (by omega) _ k (by rw [headsP_len]; exact hk), headsP_get _ _ _ _ _ _ _ (Nat.div_lt_of_lt_mul (by rw [Nat.mul_comm]; exact hk))]
        have hmulI : (t.length : Int) * cs.length = ((t.length * cs.length : Nat) : Int) := (Int.natCast_mul _ _).symm
        have h800 := hR.2
        generalize hRT : rowsT n cs b s t = RT at *
        simp only [↓vsd, vsn, gW, qd, qv, ev, pick, argE, zipE, ne_eq, eq_self, forall_const, implies_true, if_true, if_false, reduceIte, reduceCtorEq, Nat.reduceEqDiff, Nat.reduceAdd, Nat.reduceLT, ↓us_lFnTouch, r_lFnTouch, hRd, hm20.facts, fMg, hqr.facts, hqm.facts, hmulI, hrl]
        refine ⟨inR_i64 (by omega), ?_⟩
        refine m_upto RT.length (fun k vs w' => vs = [.int .i64 k] ∧ Ext w20 w') ⟨rfl, Ext.refl _⟩ ?_
        rintro k vs w21 hk ⟨rfl, hx21⟩
        have hm21 := hm20.ext hx21
        have hqr21 := hqr.ext hx21
        have hq21 := hq20.ext hx21
        have hqm21 := hqm.ext hx21
        have hrlI : ((RT.length : Nat) : Int) = ((t.length * cs.length : Nat) : Int) := by omega
        by_cases hlt : k < RT.length
        · have hltI : (k : Int) < ((t.length * cs.length : Nat) : Int) := by omega
          have hltJ : ¬ ((t.length * cs.length : Nat) : Int) ≤ k := by omega
          have hL0 : ¬ (cs.length : Int) = 0 := by omega
          have hkp : k < t.length * cs.length := by omega
          have hdiv : k / cs.length < t.length := Nat.div_lt_of_lt_mul (by rw [Nat.mul_comm]; exact hkp)
          have hmod : k % cs.length < cs.length := Nat.mod_lt _ (by omega)
          have hlh : k / cs.length < (headsP n cs b s t (t.length + 1)).length := by omega
          have hgh := headsP_get n cs b s t (t.length + 1) (k / cs.length) (by omega)
          have hgk := hrg k hkp
          by_cases hz : k % cs.length = 0
          · have hzI : ((k % cs.length : Nat) : Int) = 0 := by omega
            have h00 : ¬ (0 : Int) < 0 := by decide
            have hgk0 : RT.getD k [] = headP n cs b s t (k / cs.length) := by rw [hgk, hz]; rfl
            simp only [↓vsd, vsn, gW, qd, qv, ev, pick, argE, zipE, ne_eq, eq_self, forall_const, implies_true, if_true, if_false, reduceIte, reduceCtorEq, Nat.reduceEqDiff, Nat.reduceAdd, Nat.reduceLT, ↓us_lFnTouch, r_lFnTouch, hm21.facts, fMg, hqm21.facts, hrlI, hltI, hltJ, hL0, hqr21.facts, hqr21.at1 [] hlt, hgk0, hq21.facts, hll', hq21.at1 [] hlh, hgh, hzI, h00]
            exact ⟨by first | exact hL0 | omega | exact inR_i64 (by omega) | exact ⟨by omega, hltI⟩, inR_i64 ⟨Int.le_trans (by decide) (Int.natCast_nonneg _), Int.le_trans (Int.ofNat_le.2 (Nat.le_of_lt hdiv)) (by omega)⟩, ⟨Int.natCast_nonneg _, Int.lt_add_one_of_le (Int.ofNat_le.2 (Nat.le_of_lt hdiv))⟩, inR_i64 (by omega), UpTo.next hlt ⟨rfl, by first | exact hx21 | exact dr hx21⟩⟩
          · have hzI : ¬ ((k % cs.length : Nat) : Int) = 0 := by omega
            have hzP : (0 : Int) < ((k % cs.length : Nat) : Int) := by omega
            have hk1 : (k : Int) - 1 = ((k - 1 : Nat) : Int) := by have := Nat.mod_le k cs.length; omega
            have hm1 : ((k % cs.length : Nat) : Int) - 1 = ((k % cs.length - 1 : Nat) : Int) := by omega
            have hkle := Nat.mod_le k cs.length
            have hltk1 : k - 1 < RT.length := by omega
            have hltm1 : k % cs.length - 1 < cs.length := by omega
            have hdm := Nat.div_add_mod k cs.length
            have hmm : (k - 1) / cs.length = k / cs.length ∧ (k - 1) % cs.length = k % cs.length - 1 := by
              have e : k - 1 = cs.length * (k / cs.length) + (k % cs.length - 1) := by omega
              constructor
              · rw [e, Nat.mul_add_div (show 0 < cs.length by omega), Nat.div_eq_of_lt hltm1, Nat.add_zero]
              · rw [e, Nat.mul_add_mod, Nat.mod_eq_of_lt hltm1]
            have hgp := hrg (k - 1) (by omega)
            rw [hmm.1, hmm.2] at hgp
            have hsn := underL_snoc (headP n cs b s t (k / cs.length)) cs (k % cs.length - 1) hltm1
            rw [show k % cs.length - 1 + 1 = k % cs.length by omega, ← hgk, ← hgp] at hsn
            have hrr : IsRow (RT.getD (k - 1) []) := by rw [hgp]; exact underL_row _ (headP_row hM.1 t _).1
            have hrl2 : (RT.getD (k - 1) []).length = n := by rw [hgp, underL_len]; exact (headP_row hM.1 t _).2
            have hch := hM.1.1.2.2.2 _ (getD_mem [] hltm1)
            simp only [↓vsd, vsn, gW, qd, qv, ev, pick, argE, zipE, ne_eq, eq_self, forall_const, implies_true, if_true, if_false, reduceIte, reduceCtorEq, Nat.reduceEqDiff, Nat.reduceAdd, Nat.reduceLT, ↓us_lFnTouch, r_lFnTouch, hm21.facts, fMg, hqm21.facts, hrlI, hltI, hltJ, hL0, hqr21.facts, hzI, hzP, hk1, hm1, hqr21.at1 [] hltk1, hqm21.at1 [] hltm1]
            refine ⟨inR_i64 (by omega), ⟨Int.natCast_nonneg _, Int.ofNat_lt.2 (by omega)⟩, inR_i64 (by omega), ⟨Int.natCast_nonneg _, Int.ofNat_lt.2 hltm1⟩, m_call (sApply_ok _ _ (hc8' _ (getD_mem [] hltm1)) _) ?_⟩
            rintro re wa hxa hre
            rw [aplV, if_pos ⟨hrr, by rw [hrl2]; exact hch⟩] at hre
            subst hre
            have hxa : Ext w21 wa := by first | exact hxa | exact ud hxa | exact ud (ud hxa)
            have hqra := hqr21.ext hxa
            simp only [↓vsd, vsn, gW, qd, qv, ev, pick, argE, zipE, ne_eq, eq_self, forall_const, implies_true, if_true, if_false, reduceIte, reduceCtorEq, Nat.reduceEqDiff, Nat.reduceAdd, Nat.reduceLT, ↓us_lFnTouch, r_lFnTouch, hqra.facts, hrlI, hqra.at1 [] hlt, hsn]
            exact ⟨by omega, inR_i64 (by omega), UpTo.next hlt ⟨rfl, hx21.trans hxa⟩⟩
        · obtain rfl : k = RT.length := by omega
          have hltI : ¬ ((t.length * cs.length : Nat) : Int) < ((t.length * cs.length : Nat) : Int) := by omega
          simp only [↓vsd, vsn, gW, qd, qv, ev, pick, argE, zipE, ne_eq, eq_self, forall_const, implies_true, if_true, if_false, reduceIte, reduceCtorEq, Nat.reduceEqDiff, Nat.reduceAdd, Nat.reduceLT, ↓us_lFnTouch, r_lFnTouch, hrlI, hltI]
          exact (hx17'.trans hx1720).trans hx21
      · have hRd := decide_eq_false hR
        have hmulI : (t.length : Int) * cs.length = ((t.length * cs.length : Nat) : Int) := (Int.natCast_mul _ _).symm
        have hqm := (ho17.ext hx1720).sq
        have h800 : 800 < t.length * cs.length := Nat.lt_of_not_le fun hh => hR ⟨hM, hh⟩
        have hb : t.length * cs.length ≤ 3000 := Nat.le_trans (Nat.mul_le_mul ht60.2 hcl.2) (by decide)
        have h800I : (800 : Int) < ((t.length * cs.length : Nat) : Int) := by omega
        simp only [↓vsd, vsn, gW, qd, qv, ev, pick, argE, zipE, ne_eq, eq_self, forall_const, implies_true, if_true, if_false, reduceIte, reduceCtorEq, Nat.reduceEqDiff, Nat.reduceAdd, Nat.reduceLT, ↓us_lFnTouch, r_lFnTouch, hRd, hm20.facts, fMg, hqm.facts, hmulI, h800I]
        exact ⟨inR_i64 (by omega), hx17'.trans hx1720⟩
  · have hMd := decide_eq_false hM
    simp only [↓vsd, vsn, gW, qd, qv, ev, pick, argE, zipE, ne_eq, eq_self, forall_const, implies_true, if_true, if_false, reduceIte, reduceCtorEq, Nat.reduceEqDiff, Nat.reduceAdd, Nat.reduceLT, ↓us_lFnTouch, r_lFnTouch, hMd]
    exact hx17'
end Go.Proofs.Ytpnopboffalfnaa
