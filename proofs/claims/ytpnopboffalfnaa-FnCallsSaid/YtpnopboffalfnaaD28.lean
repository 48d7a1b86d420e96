/-
  The call of the law FnCalls.
  Conditions: none.
-/
import Derived.Test.YtpnopboffalfnaaD27
import Derived.Test.YtpnopboffalfnaaA24
import Derived.Test.YtpnopboffalfnaaA36
import Derived.Test.YtpnopboffalfnaaA41
set_option linter.unusedSimpArgs false
set_option linter.unusedVariables false
set_option linter.defProp false
namespace Go.Proofs.Ytpnopboffalfnaa
open Go Go.RowKit
section
variable (P : Program) (k : KT) (e : Env) (w : World)
abbrev b12_1 : X := (.cond (.t 55) (.seq (.reg [4] (.c (.q 4 [] (.mv (.c (.bool true)))) .nil)) .ret) .skip)
def t12_1 := b12_1
theorem u12_1 : vcK P t12_1 k e w = vcK P b12_1 k e w := rfl
abbrev b12_2 : X := (.cond (.t 190) (.seq (.reg [4] (.c (.q 4 [] (.mv (.c (.bool false)))) .nil)) .ret) .skip)
def t12_2 := b12_2
theorem u12_2 : vcK P t12_2 k e w = vcK P b12_2 k e w := rfl
abbrev b12_3 : X := (.cond (.t 261) (.seq (.reg [4] (.c (.q 4 [] (.mv (.c (.bool false)))) .nil)) .ret) .skip)
def t12_3 := b12_3
theorem u12_3 : vcK P t12_3 k e w = vcK P b12_3 k e w := rfl
abbrev b12_4 : X := (.seq (.reg [1, 261] (.c (.q 220 [] (.mv (.t 29))) (.c (.q 221 [] (.not (.t 220))) (.c (.q 222 [] (.mv (.t 221))) (.c (.q 223 [(222, false)] (.mv (.t 31))) (.c (.q 224 [(222, false)] (.not (.t 223))) (.c (.q 225 [] (.pick (.t 222) (.c (.bool true)) (.t 224))) (.c (.q 226 [] (.mv (.t 225))) (.c (.q 227 [(226, false)] (.mv (.t 33))) (.c (.q 228 [(226, false)] (.not (.t 227))) (.c (.q 229 [] (.pick (.t 226) (.c (.bool true)) (.t 228))) (.c (.q 230 [] (.mv (.t 229))) (.c (.q 231 [(230, false)] (.mv (.t 35))) (.c (.q 232 [(230, false)] (.not (.t 231))) (.c (.q 233 [] (.pick (.t 230) (.c (.bool true)) (.t 232))) (.c (.q 234 [] (.mv (.t 233))) (.c (.q 235 [(234, false)] (.mv (.t 37))) (.c (.q 236 [(234, false)] (.not (.t 235))) (.c (.q 237 [] (.pick (.t 234) (.c (.bool true)) (.t 236))) (.c (.q 238 [] (.mv (.t 237))) (.c (.q 239 [(238, false)] (.mv (.t 28))) (.c (.q 240 [(238, false)] (.mv (.t 12))) (.c (.q 241 [(238, false)] (.bin .neq (.t 239) (.t 240))) (.c (.q 242 [] (.pick (.t 238) (.c (.bool true)) (.t 241))) (.c (.q 243 [] (.mv (.t 242))) (.c (.q 244 [(243, false)] (.mv (.t 32))) (.c (.q 245 [(243, false)] (.mv (.t 12))) (.c (.q 246 [(243, false)] (.bin .neq (.t 244) (.t 245))) (.c (.q 247 [] (.pick (.t 243) (.c (.bool true)) (.t 246))) (.c (.q 248 [] (.mv (.t 247))) (.c (.q 249 [(248, false)] (.mv (.t 36))) (.c (.q 250 [(248, false)] (.mv (.t 34))) (.c (.q 251 [(248, false)] (.bin .neq (.t 249) (.t 250))) (.c (.q 252 [] (.pick (.t 248) (.c (.bool true)) (.t 251))) (.c (.q 253 [] (.mv (.t 252))) (.c (.q 254 [(253, false)] (.mv (.t 7))) (.c (.q 255 [(253, false)] (.bin .eql (.t 254) (.s [112]))) (.c (.q 256 [(253, false)] (.mv (.t 255))) (.c (.q 257 [(256, true), (253, false)] (.mv (.t 24))) (.c (.q 258 [(256, true), (253, false)] (.lens (.t 257))) (.c (.q 259 [(256, true), (253, false)] (.bin .gtr (.t 258) (.c (.int .i64 0)))) (.c (.q 260 [(253, false)] (.pick (.t 256) (.t 259) (.c (.bool false)))) (.c (.q 261 [] (.pick (.t 253) (.c (.bool true)) (.t 260))) .nil))))))))))))))))))))))))))))))))))))))))))) t12_3)
def t12_4 := b12_4
theorem u12_4 : vcK P t12_4 k e w = vcK P b12_4 k e w := rfl
abbrev b12_5 : X := (.seq (.reg [1, 7, 12, 24, 28, 29, 31, 32, 33, 34, 35, 36, 37] (.c (.q 215 [] (.mv (.t 16))) (.c (.q 216 [] (.mv (.t 20))) (.c (.e (some 217) [] (.call false 134 [(.t 215), (.t 216)])) (.c (.q 214 [] (.mv (.t 217))) (.c (.q 218 [] (.ext 0 (.t 214))) (.c (.q 219 [] (.ext 1 (.t 214))) (.c (.q 36 [] (.mv (.t 218))) (.c (.q 37 [] (.mv (.t 219))) .nil))))))))) t12_4)
def t12_5 := b12_5
theorem u12_5 : vcK P t12_5 k e w = vcK P b12_5 k e w := rfl
abbrev b12_6 : X := (.seq (.reg [1, 7, 12, 16, 20, 24, 28, 29, 31, 32, 33, 34, 35] (.c (.q 209 [] (.fa 1 (.t 5))) (.c (.q 210 [] (.ld (.t 209))) (.c (.e (some 211) [] (.call false 84 [(.t 210)])) (.c (.q 208 [] (.mv (.t 211))) (.c (.q 212 [] (.ext 0 (.t 208))) (.c (.q 213 [] (.ext 1 (.t 208))) (.c (.q 34 [] (.mv (.t 212))) (.c (.q 35 [] (.mv (.t 213))) .nil))))))))) t12_5)
def t12_6 := b12_6
theorem u12_6 : vcK P t12_6 k e w = vcK P b12_6 k e w := rfl
abbrev b12_7 : X := (.seq (.reg [1, 5, 7, 12, 16, 20, 24, 28, 29, 31, 32, 33] (.c (.q 203 [] (.mv (.t 30))) (.c (.q 204 [] (.mv (.t 16))) (.c (.e (some 205) [] (.call false 86 [(.t 203), (.t 204)])) (.c (.q 202 [] (.mv (.t 205))) (.c (.q 206 [] (.ext 0 (.t 202))) (.c (.q 207 [] (.ext 1 (.t 202))) (.c (.q 32 [] (.mv (.t 206))) (.c (.q 33 [] (.mv (.t 207))) .nil))))))))) t12_6)
def t12_7 := b12_7
theorem u12_7 : vcK P t12_7 k e w = vcK P b12_7 k e w := rfl
abbrev b12_8 : X := (.seq (.reg [1, 5, 7, 12, 16, 20, 24, 28, 29, 30, 31] (.c (.q 198 [] (.lda 3 (.t 5))) (.c (.e (some 199) [] (.call false 133 [(.t 198)])) (.c (.q 197 [] (.mv (.t 199))) (.c (.q 200 [] (.ext 0 (.t 197))) (.c (.q 201 [] (.ext 1 (.t 197))) (.c (.q 30 [] (.mv (.t 200))) (.c (.q 31 [] (.mv (.t 201))) .nil)))))))) t12_7)
def t12_8 := b12_8
theorem u12_8 : vcK P t12_8 k e w = vcK P b12_8 k e w := rfl
abbrev b12_9 : X := (.cond (.t 191) (.seq (.reg [1, 5, 7, 12, 16, 20, 24, 28, 29] (.c (.q 193 [] (.lda 3 (.t 8))) (.c (.e (some 194) [] (.call false 133 [(.t 193)])) (.c (.q 192 [] (.mv (.t 194))) (.c (.q 195 [] (.ext 0 (.t 192))) (.c (.q 196 [] (.ext 1 (.t 192))) (.c (.q 28 [] (.mv (.t 195))) (.c (.q 29 [] (.mv (.t 196))) .nil)))))))) t12_8) .skip)
def t12_9 := b12_9
theorem u12_9 : vcK P t12_9 k e w = vcK P b12_9 k e w := rfl
abbrev b12_10 : X := (.seq (.reg [4] (.c (.q 297 [] (.mv (.t 43))) (.c (.q 298 [] (.mv (.t 45))) (.c (.q 299 [] (.beq false (.t 297) (.t 298))) (.c (.q 300 [] (.mv (.t 299))) (.c (.q 301 [(300, true)] (.mv (.t 42))) (.c (.q 302 [(300, true)] (.mv (.t 44))) (.c (.q 303 [(300, true)] (.beq false (.t 301) (.t 302))) (.c (.q 304 [] (.pick (.t 300) (.t 303) (.c (.bool false)))) (.c (.q 305 [] (.mv (.t 304))) (.c (.q 306 [(305, true)] (.mv (.t 47))) (.c (.q 307 [(305, true)] (.mv (.t 49))) (.c (.q 308 [(305, true)] (.beq false (.t 306) (.t 307))) (.c (.q 309 [] (.pick (.t 305) (.t 308) (.c (.bool false)))) (.c (.q 310 [] (.mv (.t 309))) (.c (.q 311 [(310, true)] (.mv (.t 46))) (.c (.q 312 [(310, true)] (.mv (.t 48))) (.c (.e (some 313) [(310, true)] (.call false 81 [(.t 311), (.t 312)])) (.c (.q 314 [] (.pick (.t 310) (.t 313) (.c (.bool false)))) (.c (.q 4 [] (.mv (.t 314))) .nil)))))))))))))))))))) .ret)
def t12_10 := b12_10
theorem u12_10 : vcK P t12_10 k e w = vcK P b12_10 k e w := rfl
abbrev b12_11 : X := (.seq (.reg [42, 43, 44, 45, 46, 47, 48, 49] (.c (.q 292 [] (.lda 3 (.t 38))) (.c (.q 293 [] (.lda 2 (.t 39))) (.c (.e (some 294) [] (.call false 139 [(.t 292), (.t 293)])) (.c (.q 291 [] (.mv (.t 294))) (.c (.q 295 [] (.ext 0 (.t 291))) (.c (.q 296 [] (.ext 1 (.t 291))) (.c (.q 48 [] (.mv (.t 295))) (.c (.q 49 [] (.mv (.t 296))) .nil))))))))) t12_10)
def t12_11 := b12_11
theorem u12_11 : vcK P t12_11 k e w = vcK P b12_11 k e w := rfl
abbrev b12_12 : X := (.seq (.reg [38, 39, 42, 43, 44, 45, 46, 47] (.c (.q 286 [] (.lda 3 (.t 38))) (.c (.q 287 [] (.lda 2 (.t 39))) (.c (.e (some 288) [] (.call false 138 [(.t 286), (.t 287)])) (.c (.q 285 [] (.mv (.t 288))) (.c (.q 289 [] (.ext 0 (.t 285))) (.c (.q 290 [] (.ext 1 (.t 285))) (.c (.q 46 [] (.mv (.t 289))) (.c (.q 47 [] (.mv (.t 290))) .nil))))))))) t12_11)
def t12_12 := b12_12
theorem u12_12 : vcK P t12_12 k e w = vcK P b12_12 k e w := rfl
abbrev b12_13 : X := (.seq (.reg [38, 39, 42, 43, 44, 45] (.c (.q 278 [] (.lda 3 (.t 38))) (.c (.q 279 [] (.lda 2 (.t 39))) (.c (.q 280 [] (.mv (.t 40))) (.c (.q 281 [] (.mv (.t 41))) (.c (.e (some 282) [] (.call false 137 [(.t 278), (.t 279), (.t 280), (.t 281)])) (.c (.q 277 [] (.mv (.t 282))) (.c (.q 283 [] (.ext 0 (.t 277))) (.c (.q 284 [] (.ext 1 (.t 277))) (.c (.q 44 [] (.mv (.t 283))) (.c (.q 45 [] (.mv (.t 284))) .nil))))))))))) t12_12)
def t12_13 := b12_13
theorem u12_13 : vcK P t12_13 k e w = vcK P b12_13 k e w := rfl
abbrev b12_14 : X := (.seq (.reg [38, 39, 40, 41, 42, 43] (.c (.q 270 [] (.lda 3 (.t 38))) (.c (.q 271 [] (.lda 2 (.t 39))) (.c (.q 272 [] (.mv (.t 40))) (.c (.q 273 [] (.mv (.t 41))) (.c (.e (some 274) [] (.call false 136 [(.t 270), (.t 271), (.t 272), (.t 273)])) (.c (.q 269 [] (.mv (.t 274))) (.c (.q 275 [] (.ext 0 (.t 269))) (.c (.q 276 [] (.ext 1 (.t 269))) (.c (.q 42 [] (.mv (.t 275))) (.c (.q 43 [] (.mv (.t 276))) .nil))))))))))) t12_13)
def t12_14 := b12_14
theorem u12_14 : vcK P t12_14 k e w = vcK P b12_14 k e w := rfl
abbrev b12_15 : X := (.seq (.reg [38, 39, 40, 41] (.c (.q 263 [] (.mv (.t 1))) (.c (.e (some 264) [] (.call false 135 [(.t 263)])) (.c (.q 262 [] (.mv (.t 264))) (.c (.q 265 [] (.ext 0 (.t 262))) (.c (.q 266 [] (.ext 1 (.t 262))) (.c (.q 267 [] (.ext 2 (.t 262))) (.c (.q 268 [] (.ext 3 (.t 262))) (.c (.e (some 38) [] (.al 41 [(S []), (.int .i64 0), (.slice none 0 0)])) (.c (.e (some 39) [] (.al 32 [(S []), (S [])])) (.c (.e none [] (.st 3 (.t 38) (.t 265))) (.c (.e none [] (.st 2 (.t 39) (.t 266))) (.c (.q 40 [] (.mv (.t 267))) (.c (.q 41 [] (.mv (.t 268))) .nil)))))))))))))) t12_14)
def t12_15 := b12_15
theorem u12_15 : vcK P t12_15 k e w = vcK P b12_15 k e w := rfl
abbrev b12_16 : X := (.seq (.seq (.reg [1, 5, 7, 8, 12, 16, 20, 24, 191] (.c (.q 191 [] (.mv (.t 9))) .nil)) t12_9) t12_15)
def t12_16 := b12_16
theorem u12_16 : vcK P t12_16 k e w = vcK P b12_16 k e w := rfl
abbrev b12_17 : X := (.seq (.seq (.drw [1, 5, 7, 8, 9, 12, 16, 20, 24, 190] (.c (.q 132 [] (.mv (.t 9))) (.c (.q 133 [] (.mv (.t 11))) (.c (.q 134 [] (.beq true (.t 132) (.t 133))) (.c (.q 135 [] (.mv (.t 134))) (.c (.q 136 [(135, false)] (.lda 3 (.t 8))) (.c (.q 137 [(135, false)] (.lda 3 (.t 10))) (.c (.e (some 138) [(135, false)] (.call false 35 [(.t 136), (.t 137)])) (.c (.q 139 [(135, false)] (.not (.t 138))) (.c (.q 140 [] (.pick (.t 135) (.c (.bool true)) (.t 139))) (.c (.q 141 [] (.mv (.t 140))) (.c (.q 142 [(141, false)] (.mv (.t 13))) (.c (.q 143 [(141, false)] (.mv (.t 15))) (.c (.q 144 [(141, false)] (.beq true (.t 142) (.t 143))) (.c (.q 145 [] (.pick (.t 141) (.c (.bool true)) (.t 144))) (.c (.q 146 [] (.mv (.t 145))) (.c (.q 147 [(146, false)] (.mv (.t 12))) (.c (.q 148 [(146, false)] (.mv (.t 14))) (.c (.q 149 [(146, false)] (.bin .neq (.t 147) (.t 148))) (.c (.q 150 [] (.pick (.t 146) (.c (.bool true)) (.t 149))) (.c (.q 151 [] (.mv (.t 150))) (.c (.q 152 [(151, false)] (.mv (.t 17))) (.c (.q 153 [(151, false)] (.mv (.t 19))) (.c (.q 154 [(151, false)] (.beq true (.t 152) (.t 153))) (.c (.q 155 [] (.pick (.t 151) (.c (.bool true)) (.t 154))) (.c (.q 156 [] (.mv (.t 155))) (.c (.q 157 [(156, false)] (.mv (.t 16))) (.c (.q 158 [(156, false)] (.mv (.t 18))) (.c (.q 159 [(156, false)] (.bin .neq (.t 157) (.t 158))) (.c (.q 160 [] (.pick (.t 156) (.c (.bool true)) (.t 159))) (.c (.q 161 [] (.mv (.t 160))) (.c (.q 162 [(161, false)] (.mv (.t 21))) (.c (.q 163 [(161, false)] (.mv (.t 23))) (.c (.q 164 [(161, false)] (.beq true (.t 162) (.t 163))) (.c (.q 165 [] (.pick (.t 161) (.c (.bool true)) (.t 164))) (.c (.q 166 [] (.mv (.t 165))) (.c (.q 167 [(166, false)] (.mv (.t 20))) (.c (.q 168 [(166, false)] (.mv (.t 22))) (.c (.q 169 [(166, false)] (.bin .neq (.t 167) (.t 168))) (.c (.q 170 [] (.pick (.t 166) (.c (.bool true)) (.t 169))) (.c (.q 171 [] (.mv (.t 170))) (.c (.q 172 [(171, false)] (.mv (.t 25))) (.c (.q 173 [(171, false)] (.mv (.t 27))) (.c (.q 174 [(171, false)] (.beq true (.t 172) (.t 173))) (.c (.q 175 [] (.pick (.t 171) (.c (.bool true)) (.t 174))) (.c (.q 176 [] (.mv (.t 175))) (.c (.q 177 [(176, false)] (.mv (.t 24))) (.c (.q 178 [(176, false)] (.mv (.t 26))) (.c (.e (some 179) [(176, false)] (.call false 109 [(.t 177), (.t 178)])) (.c (.q 180 [(176, false)] (.not (.t 179))) (.c (.q 181 [] (.pick (.t 176) (.c (.bool true)) (.t 180))) (.c (.q 182 [] (.mv (.t 181))) (.c (.q 183 [(182, false)] (.lda 3 (.t 5))) (.c (.q 184 [(182, false)] (.lda 2 (.t 6))) (.c (.q 186 [(182, false)] (.lda 3 (.t 5))) (.c (.q 187 [(182, false)] (.lda 2 (.t 6))) (.c (.e (some 185) [(182, false)] (.call false 131 [(.t 183), (.t 184)])) (.c (.e (some 188) [(182, false)] (.call false 132 [(.t 186), (.t 187)])) (.c (.q 189 [(182, false)] (.beq true (.t 185) (.t 188))) (.c (.q 190 [] (.pick (.t 182) (.c (.bool true)) (.t 189))) .nil)))))))))))))))))))))))))))))))))))))))))))))))))))))))))))) t12_2) t12_16)
def t12_17 := b12_17
theorem u12_17 : vcK P t12_17 k e w = vcK P b12_17 k e w := rfl
abbrev b12_18 : X := (.seq (.reg [1, 5, 6, 7, 8, 9, 10, 11, 12, 13, 14, 15, 16, 17, 18, 19, 20, 21, 22, 23, 24, 25, 26, 27] (.c (.q 126 [] (.lda 3 (.t 5))) (.c (.q 127 [] (.lda 2 (.t 6))) (.c (.q 128 [] (.mv (.t 7))) (.c (.e (some 129) [] (.call false 130 [(.t 126), (.t 127), (.t 128)])) (.c (.q 125 [] (.mv (.t 129))) (.c (.q 130 [] (.ext 0 (.t 125))) (.c (.q 131 [] (.ext 1 (.t 125))) (.c (.q 26 [] (.mv (.t 130))) (.c (.q 27 [] (.mv (.t 131))) .nil)))))))))) t12_17)
def t12_18 := b12_18
theorem u12_18 : vcK P t12_18 k e w = vcK P b12_18 k e w := rfl
abbrev b12_19 : X := (.seq (.reg [1, 5, 6, 7, 8, 9, 10, 11, 12, 13, 14, 15, 16, 17, 18, 19, 20, 21, 22, 23, 24, 25] (.c (.q 119 [] (.lda 3 (.t 5))) (.c (.q 120 [] (.lda 2 (.t 6))) (.c (.q 121 [] (.mv (.t 7))) (.c (.e (some 122) [] (.call false 129 [(.t 119), (.t 120), (.t 121)])) (.c (.q 118 [] (.mv (.t 122))) (.c (.q 123 [] (.ext 0 (.t 118))) (.c (.q 124 [] (.ext 1 (.t 118))) (.c (.q 24 [] (.mv (.t 123))) (.c (.q 25 [] (.mv (.t 124))) .nil)))))))))) t12_18)
def t12_19 := b12_19
theorem u12_19 : vcK P t12_19 k e w = vcK P b12_19 k e w := rfl
abbrev b12_20 : X := (.seq (.reg [1, 5, 6, 7, 8, 9, 10, 11, 12, 13, 14, 15, 16, 17, 18, 19, 20, 21, 22, 23] (.c (.q 112 [] (.lda 3 (.t 5))) (.c (.q 113 [] (.lda 2 (.t 6))) (.c (.q 114 [] (.mv (.t 7))) (.c (.e (some 115) [] (.call false 128 [(.t 112), (.t 113), (.t 114)])) (.c (.q 111 [] (.mv (.t 115))) (.c (.q 116 [] (.ext 0 (.t 111))) (.c (.q 117 [] (.ext 1 (.t 111))) (.c (.q 22 [] (.mv (.t 116))) (.c (.q 23 [] (.mv (.t 117))) .nil)))))))))) t12_19)
def t12_20 := b12_20
theorem u12_20 : vcK P t12_20 k e w = vcK P b12_20 k e w := rfl
abbrev b12_21 : X := (.seq (.reg [1, 5, 6, 7, 8, 9, 10, 11, 12, 13, 14, 15, 16, 17, 18, 19, 20, 21] (.c (.q 105 [] (.lda 3 (.t 5))) (.c (.q 106 [] (.lda 2 (.t 6))) (.c (.q 107 [] (.mv (.t 7))) (.c (.e (some 108) [] (.call false 127 [(.t 105), (.t 106), (.t 107)])) (.c (.q 104 [] (.mv (.t 108))) (.c (.q 109 [] (.ext 0 (.t 104))) (.c (.q 110 [] (.ext 1 (.t 104))) (.c (.q 20 [] (.mv (.t 109))) (.c (.q 21 [] (.mv (.t 110))) .nil)))))))))) t12_20)
def t12_21 := b12_21
theorem u12_21 : vcK P t12_21 k e w = vcK P b12_21 k e w := rfl
abbrev b12_22 : X := (.seq (.reg [1, 5, 6, 7, 8, 9, 10, 11, 12, 13, 14, 15, 16, 17, 18, 19] (.c (.q 98 [] (.lda 3 (.t 5))) (.c (.q 99 [] (.lda 2 (.t 6))) (.c (.q 100 [] (.mv (.t 7))) (.c (.e (some 101) [] (.call false 126 [(.t 98), (.t 99), (.t 100)])) (.c (.q 97 [] (.mv (.t 101))) (.c (.q 102 [] (.ext 0 (.t 97))) (.c (.q 103 [] (.ext 1 (.t 97))) (.c (.q 18 [] (.mv (.t 102))) (.c (.q 19 [] (.mv (.t 103))) .nil)))))))))) t12_21)
def t12_22 := b12_22
theorem u12_22 : vcK P t12_22 k e w = vcK P b12_22 k e w := rfl
abbrev b12_23 : X := (.seq (.reg [1, 5, 6, 7, 8, 9, 10, 11, 12, 13, 14, 15, 16, 17] (.c (.q 91 [] (.lda 3 (.t 5))) (.c (.q 92 [] (.lda 2 (.t 6))) (.c (.q 93 [] (.mv (.t 7))) (.c (.e (some 94) [] (.call false 125 [(.t 91), (.t 92), (.t 93)])) (.c (.q 90 [] (.mv (.t 94))) (.c (.q 95 [] (.ext 0 (.t 90))) (.c (.q 96 [] (.ext 1 (.t 90))) (.c (.q 16 [] (.mv (.t 95))) (.c (.q 17 [] (.mv (.t 96))) .nil)))))))))) t12_22)
def t12_23 := b12_23
theorem u12_23 : vcK P t12_23 k e w = vcK P b12_23 k e w := rfl
abbrev b12_24 : X := (.seq (.reg [1, 5, 6, 7, 8, 9, 10, 11, 12, 13, 14, 15] (.c (.q 84 [] (.lda 3 (.t 5))) (.c (.q 85 [] (.lda 2 (.t 6))) (.c (.q 86 [] (.mv (.t 7))) (.c (.e (some 87) [] (.call false 85 [(.t 84), (.t 85), (.t 86)])) (.c (.q 83 [] (.mv (.t 87))) (.c (.q 88 [] (.ext 0 (.t 83))) (.c (.q 89 [] (.ext 1 (.t 83))) (.c (.q 14 [] (.mv (.t 88))) (.c (.q 15 [] (.mv (.t 89))) .nil)))))))))) t12_23)
def t12_24 := b12_24
theorem u12_24 : vcK P t12_24 k e w = vcK P b12_24 k e w := rfl
abbrev b12_25 : X := (.seq (.reg [1, 5, 6, 7, 8, 9, 10, 11, 12, 13] (.c (.q 77 [] (.lda 3 (.t 5))) (.c (.q 78 [] (.lda 2 (.t 6))) (.c (.q 79 [] (.mv (.t 7))) (.c (.e (some 80) [] (.call false 124 [(.t 77), (.t 78), (.t 79)])) (.c (.q 76 [] (.mv (.t 80))) (.c (.q 81 [] (.ext 0 (.t 76))) (.c (.q 82 [] (.ext 1 (.t 76))) (.c (.q 12 [] (.mv (.t 81))) (.c (.q 13 [] (.mv (.t 82))) .nil)))))))))) t12_24)
def t12_25 := b12_25
theorem u12_25 : vcK P t12_25 k e w = vcK P b12_25 k e w := rfl
abbrev b12_26 : X := (.seq (.reg [1, 5, 6, 7, 8, 9, 10, 11] (.c (.q 70 [] (.lda 3 (.t 5))) (.c (.q 71 [] (.lda 2 (.t 6))) (.c (.q 72 [] (.mv (.t 7))) (.c (.e (some 73) [] (.call false 123 [(.t 70), (.t 71), (.t 72)])) (.c (.q 69 [] (.mv (.t 73))) (.c (.q 74 [] (.ext 0 (.t 69))) (.c (.q 75 [] (.ext 1 (.t 69))) (.c (.e (some 10) [] (.al 41 [(S []), (.int .i64 0), (.slice none 0 0)])) (.c (.e none [] (.st 3 (.t 10) (.t 74))) (.c (.q 11 [] (.mv (.t 75))) .nil))))))))))) t12_25)
def t12_26 := b12_26
theorem u12_26 : vcK P t12_26 k e w = vcK P b12_26 k e w := rfl
abbrev b12_27 : X := (.seq (.reg [1, 5, 6, 7, 8, 9] (.c (.q 63 [] (.lda 3 (.t 5))) (.c (.q 64 [] (.lda 2 (.t 6))) (.c (.q 65 [] (.mv (.t 7))) (.c (.e (some 66) [] (.call false 122 [(.t 63), (.t 64), (.t 65)])) (.c (.q 62 [] (.mv (.t 66))) (.c (.q 67 [] (.ext 0 (.t 62))) (.c (.q 68 [] (.ext 1 (.t 62))) (.c (.e (some 8) [] (.al 41 [(S []), (.int .i64 0), (.slice none 0 0)])) (.c (.e none [] (.st 3 (.t 8) (.t 67))) (.c (.q 9 [] (.mv (.t 68))) .nil))))))))))) t12_26)
def t12_27 := b12_27
theorem u12_27 : vcK P t12_27 k e w = vcK P b12_27 k e w := rfl
abbrev b12_28 : X := (.seq (.reg [1, 5, 6, 7] (.c (.q 57 [] (.mv (.t 0))) (.c (.e (some 58) [] (.call false 121 [(.t 57)])) (.c (.q 56 [] (.mv (.t 58))) (.c (.q 59 [] (.ext 0 (.t 56))) (.c (.q 60 [] (.ext 1 (.t 56))) (.c (.q 61 [] (.ext 2 (.t 56))) (.c (.e (some 5) [] (.al 41 [(S []), (.int .i64 0), (.slice none 0 0)])) (.c (.e (some 6) [] (.al 32 [(S []), (S [])])) (.c (.e none [] (.st 3 (.t 5) (.t 59))) (.c (.e none [] (.st 2 (.t 6) (.t 60))) (.c (.q 7 [] (.mv (.t 61))) .nil)))))))))))) t12_27)
def t12_28 := b12_28
theorem u12_28 : vcK P t12_28 k e w = vcK P b12_28 k e w := rfl
abbrev b12_29 : X := (.seq (.seq (.reg [0, 1, 55] (.c (.q 50 [] (.mv (.t 0))) (.c (.q 51 [] (.lens (.t 50))) (.c (.q 52 [] (.mv (.t 1))) (.c (.q 53 [] (.lens (.t 52))) (.c (.q 54 [] (.bin .add (.t 51) (.t 53))) (.c (.q 55 [] (.bin .gtr (.t 54) (.c (.int .i64 1048576)))) .nil))))))) t12_1) t12_28)
def t12_29 := b12_29
theorem u12_29 : vcK P t12_29 k e w = vcK P b12_29 k e w := rfl
abbrev b12_0 : X := (.seq (.reg [0, 1] (.c (.q 4 [] (.mv (.c (.bool false)))) .nil)) t12_29)
def x_lFnCalls := b12_0
theorem u12_0 : vcK P x_lFnCalls k e w = vcK P b12_0 k e w := rfl
def r_lFnCalls : List XO := [(.mv (.t 4))]
theorem c_lFnCalls : convF Try.prog [169, 170, 207, 208, 210, 227, 232, 233, 255, 259, 268, 269, 270, 280, 281, 296, 299, 306, 307, 309] Try.f12 [([0, 1], []), ([0, 1, 55], []), ([4], []), ([1, 5, 6, 7], []), ([1, 5, 6, 7, 8, 9], []), ([1, 5, 6, 7, 8, 9, 10, 11], []), ([1, 5, 6, 7, 8, 9, 10, 11, 12, 13], []), ([1, 5, 6, 7, 8, 9, 10, 11, 12, 13, 14, 15], []), ([1, 5, 6, 7, 8, 9, 10, 11, 12, 13, 14, 15, 16, 17], []), ([1, 5, 6, 7, 8, 9, 10, 11, 12, 13, 14, 15, 16, 17, 18, 19], []), ([1, 5, 6, 7, 8, 9, 10, 11, 12, 13, 14, 15, 16, 17, 18, 19, 20, 21], []), ([1, 5, 6, 7, 8, 9, 10, 11, 12, 13, 14, 15, 16, 17, 18, 19, 20, 21, 22, 23], []), ([1, 5, 6, 7, 8, 9, 10, 11, 12, 13, 14, 15, 16, 17, 18, 19, 20, 21, 22, 23, 24, 25], []), ([1, 5, 6, 7, 8, 9, 10, 11, 12, 13, 14, 15, 16, 17, 18, 19, 20, 21, 22, 23, 24, 25, 26, 27], []), ([1, 5, 7, 8, 9, 12, 16, 20, 24, 190], []), ([4], []), ([1, 5, 7, 8, 12, 16, 20, 24, 191], []), ([1, 5, 7, 12, 16, 20, 24, 28, 29], []), ([1, 5, 7, 12, 16, 20, 24, 28, 29, 30, 31], []), ([1, 5, 7, 12, 16, 20, 24, 28, 29, 31, 32, 33], []), ([1, 7, 12, 16, 20, 24, 28, 29, 31, 32, 33, 34, 35], []), ([1, 7, 12, 24, 28, 29, 31, 32, 33, 34, 35, 36, 37], []), ([1, 261], []), ([4], []), ([38, 39, 40, 41], []), ([38, 39, 40, 41, 42, 43], []), ([38, 39, 42, 43, 44, 45], []), ([38, 39, 42, 43, 44, 45, 46, 47], []), ([42, 43, 44, 45, 46, 47, 48, 49], []), ([4], [])] = some (x_lFnCalls, r_lFnCalls) := by kernel_rfl
def us_lFnCalls := aI @u12_0 (aI @u12_1 (aI @u12_2 (aI @u12_3 (aI @u12_4 (aI @u12_5 (aI @u12_6 (aI @u12_7 (aI @u12_8 (aI @u12_9 (aI @u12_10 (aI @u12_11 (aI @u12_12 (aI @u12_13 (aI @u12_14 (aI @u12_15 (aI @u12_16 (aI @u12_17 (aI @u12_18 (aI @u12_19 (aI @u12_20 (aI @u12_21 (aI @u12_22 (aI @u12_23 (aI @u12_24 (aI @u12_25 (aI @u12_26 (aI @u12_27 (aI @u12_28 @u12_29))))))))))))))))))))))))))))
end

theorem LeadC.out {nm : List UInt8} {st : Int} {cs : List (List UInt8)} {b s call : List UInt8} {B : Nat} {r : Value} {w' : World} (h : LeadC nm st cs b s call B r w') :
    ∃ x, r = .tuple ⟨[mV (if CallOk nm st cs b s call then nm else []) (if CallOk nm st cs b s call then st else 0) x, .bool (decide (CallOk nm st cs b s call))]⟩ ∧ Own fS 1 9 B w' x (if CallOk nm st cs b s call then calledCs cs b s call else []) := by
  unfold LeadC at h
  by_cases hc : CallOk nm st cs b s call
  · rw [if_pos hc] at h
    obtain ⟨x, e, ho⟩ := h
    exact ⟨x, by rw [if_pos hc, if_pos hc, decide_eq_true hc, e], by rw [if_pos hc]; exact ho⟩
  · rw [if_neg hc] at h
    exact ⟨.slice none 0 0, by rw [if_neg hc, if_neg hc, decide_eq_false hc, h], by rw [if_neg hc]; exact Own.nil fS_len⟩
theorem chV_eq (nm : List UInt8) (st : Int) (cs : List (List UInt8)) (b s call : List UInt8) : chV nm st cs b s call = .tuple ⟨[S (if CallOk nm st cs b s call then headC st.toNat cs b s call else []), .bool (decide (CallOk nm st cs b s call))]⟩ := by
  unfold chV
  split <;> simp [*]
theorem crV_eq (nm : List UInt8) (st : Int) (cs : List (List UInt8)) (b s call : List UInt8) : crV nm st cs b s call = .tuple ⟨[S (if CallOk nm st cs b s call then rowC st.toNat cs b s call else []), .bool (decide (CallOk nm st cs b s call))]⟩ := by
  unfold crV
  split <;> simp [*]
theorem coV_eq (nm : List UInt8) (st : Int) (cs : List (List UInt8)) (b s call : List UInt8) (n : Nat) : coV nm st cs b s call n = .tuple ⟨[.int .i64 (if CallOk nm st cs b s call then (n : Int) else 0), .bool (decide (CallOk nm st cs b s call))]⟩ := by
  unfold coV
  split <;> simp [*]
theorem slV_eq (nm : List UInt8) (st : Int) (cs : List (List UInt8)) (b s p q : List UInt8) : ∃ x, slV nm st cs b s p q = .tuple ⟨[.bool x, .bool (decide (SameOk nm st cs b s p q))]⟩ := by
  unfold slV
  split
  · exact ⟨_, by simp [*]; rfl⟩
  · exact ⟨_, by simp [*]; rfl⟩
theorem ord_pick {nm : List UInt8} {st : Int} {cs : List (List UInt8)} {b s call : List UInt8} : ∃ n : Nat, n ≤ 840 ∧ (CallOk nm st cs b s call → IsOrd (rowC st.toNat cs b s call) n) := by
  by_cases hc : CallOk nm st cs b s call
  · obtain ⟨n, rfl⟩ : ∃ n : Nat, st = n := ⟨st.toNat, by have := hc.1.1.2.1; omega⟩
    obtain ⟨k, hk⟩ := ord_exists (rowC_row hc.1 call).1
    exact ⟨k, hk.2.1, fun _ => hk⟩
  · exact ⟨0, by decide, fun h => absurd h hc⟩
/-- The plain call moves no bell. -/
theorem plain_moves {nm : List UInt8} {st : Nat} {cs : List (List UInt8)} {b s : List UInt8} (h : IsMC nm st cs b s) : movedL (rowC st cs b s [112]) st = [] := by
  have h8 : 3 ≤ st ∧ st ≤ 8 := by have := h.1.2.1; omega
  have hu := under_row h8 cs
  have e : calledCs cs b s [112] = cs := by
    unfold calledCs chgOf
    rw [if_neg (by decide), if_neg (by decide)]
    exact take_last [] h.1.2.2.1.1
  have hr : rowC st cs b s [112] = roundsL st := by rw [rowC, headC, e, turn_times hu.1, hu.2]
  rw [hr, movedL, List.map_eq_nil_iff, List.filter_eq_nil_iff]
  intro i hi
  rw [List.mem_range] at hi
  rw [roundsL_get _ _ hi]
  simp
theorem head_row {nm : List UInt8} {st : Nat} {cs : List (List UInt8)} {b s : List UInt8} (h : IsMC nm st cs b s) (call : List UInt8) : timesL (underL (roundsL st) cs) (rowC st cs b s call) = headC st cs b s call := by
  have h8 : 3 ≤ st ∧ st ≤ 8 := by have := h.1.2.1; omega
  have hu := under_row h8 cs
  have hh := headC_row h call
  have := timesL_assoc (underL (roundsL st) cs) (b := turnL (underL (roundsL st) cs)) hh.1 (by rw [turnL_len, hu.2, hh.2])
  rw [times_turn hu.1, hu.2] at this
  have hr := rounds_times hh.1
  rw [hh.2] at hr
  rw [rowC, ← this, hr]
theorem ext4 (a b c d : Value) : (extV 0 (.tuple ⟨[a, b, c, d]⟩) = a ∧ extV 1 (.tuple ⟨[a, b, c, d]⟩) = b ∧ extV 2 (.tuple ⟨[a, b, c, d]⟩) = c ∧ extV 3 (.tuple ⟨[a, b, c, d]⟩) = d) ∧ extD 0 (.tuple ⟨[a, b, c, d]⟩) = True ∧ extD 1 (.tuple ⟨[a, b, c, d]⟩) = True ∧ extD 2 (.tuple ⟨[a, b, c, d]⟩) = True ∧ extD 3 (.tuple ⟨[a, b, c, d]⟩) = True :=
  ⟨⟨rfl, rfl, rfl, rfl⟩, by simp [extD], by simp [extD], by simp [extD], by simp [extD]⟩
theorem cs2_len {nm : List UInt8} {st : Int} {cs : List (List UInt8)} {b s call : List UInt8} (h : cs.length ≤ 60) : (if CallOk nm st cs b s call then calledCs cs b s call else []).length ≤ 1000000000 := by
  split
  · unfold calledCs; rw [List.length_append, List.length_take, List.length_singleton]; omega
  · simp
set_option maxHeartbeats 4000000 in
theorem lFnCalls_ok (v u : Value) (code more : List UInt8) (hcl : code.length ≤ 140737488355328) (hml : more.length ≤ 140737488355328) (w : World) (h : Sq fU 1 w v code) (h' : Sq fU 1 w u more) : Fn 12 [v, u] w (fun r _ => r = .bool true) := by
  (refine callsV_of mix Try.func12 c_lFnCalls ?_; simp only [↓vsd, vsn, gW, qd, qv, ev, pick, argE, zipE, ne_eq, eq_self, forall_const, implies_true, if_true, if_false, reduceIte, reduceCtorEq, Nat.reduceEqDiff, Nat.reduceAdd, Nat.reduceLT, ↓us_lFnCalls, r_lFnCalls])
  simp only [↓vsd, vsn, gW, qd, qv, ev, pick, argE, zipE, ne_eq, eq_self, forall_const, implies_true, if_true, if_false, reduceIte, reduceCtorEq, Nat.reduceEqDiff, Nat.reduceAdd, Nat.reduceLT, ↓us_lFnCalls, r_lFnCalls, h.facts, h'.facts]
  refine ⟨inR_i64 (by omega), fun _ => Ext.refl _, fun hsm => ?_⟩
  have hlen : code.length ≤ 1048576 ∧ more.length ≤ 1048576 := by omega
  refine m_call (sDrawCallHead_ok v code hlen.1 _ h) ?_
  rintro _ w1 hx1 ⟨nm, st, x, cs, b, s, call, rfl, ⟨ho1, hnm, hst, hcs, hc8, hbs⟩, hcall⟩
  simp only [↓vsd, vsn, gW, qd, qv, ev, pick, argE, zipE, ne_eq, eq_self, forall_const, implies_true, if_true, if_false, reduceIte, reduceCtorEq, Nat.reduceEqDiff, Nat.reduceAdd, Nat.reduceLT, ↓us_lFnCalls, r_lFnCalls]
  refine m_al ?_
  rintro bm w2 hbm hblk2 hx2 hs2
  simp only [↓vsd, vsn, gW, qd, qv, ev, pick, argE, zipE, ne_eq, eq_self, forall_const, implies_true, if_true, if_false, reduceIte, reduceCtorEq, Nat.reduceEqDiff, Nat.reduceAdd, Nat.reduceLT, ↓us_lFnCalls, r_lFnCalls]
  refine m_al ?_
  rintro bk w3 hbk hblk3 hx3 hs3
  simp only [↓vsd, vsn, gW, qd, qv, ev, pick, argE, zipE, ne_eq, eq_self, forall_const, implies_true, if_true, if_false, reduceIte, reduceCtorEq, Nat.reduceEqDiff, Nat.reduceAdd, Nat.reduceLT, ↓us_lFnCalls, r_lFnCalls]
  refine m_st (Blk.ext hblk2 hx3) rfl (Nat.le_refl 3) (fM_one nm st x ho1.sq.one') ?_
  rintro w4 hblk4 hu4
  have hm4 : Blk w4 bm (fM nm st x) 41 := hblk4
  simp only [↓vsd, vsn, gW, qd, qv, ev, pick, argE, zipE, ne_eq, eq_self, forall_const, implies_true, if_true, if_false, reduceIte, reduceCtorEq, Nat.reduceEqDiff, Nat.reduceAdd, Nat.reduceLT, ↓us_lFnCalls, r_lFnCalls]
  refine m_st (hu4.blk hblk3 (by omega)) rfl (Nat.le_refl 2) (fQ_one b s) ?_
  rintro w5 hblk5 hu5
  have hkL : Blk w5 bk (fQ b s) 32 := hblk5
  have hmL := hu5.blk hm4 (by omega)
  have hoL := (((ho1.ext hx2).ext hx3).upd hu4 (ho1.away (by omega))).upd hu5 (ho1.away (by omega))
  have hxL : Ext w w5 := hu5.below (hu4.below ((hx1.trans hx2).trans hx3) (by have := hx1.size; omega)) (by have := hx1.size; omega)
  have hnm' : nm.length ≤ 1048576 := by omega
  have hc8' : ∀ c ∈ cs, c.length ≤ 1048576 := fun c hc => by have := hc8 c hc; omega
  have hcs' : cs.length ≤ 1000000000 := by omega
  have hbs' : b.length ≤ 1048576 ∧ s.length ≤ 1048576 := by omega
  clear hblk2 hblk3 hblk4 hblk5 hx1 hx2 hx3 hu4 hu5 hm4 ho1 hbm hbk hs2 hs3
  obtain ⟨od, hod8, hod⟩ := ord_pick (nm := nm) (st := st) (cs := cs) (b := b) (s := s) (call := call)
  simp only [↓vsd, vsn, gW, qd, qv, ev, pick, argE, zipE, ne_eq, eq_self, forall_const, implies_true, if_true, if_false, reduceIte, reduceCtorEq, Nat.reduceEqDiff, Nat.reduceAdd, Nat.reduceLT, ↓us_lFnCalls, r_lFnCalls, hmL.facts, hkL.facts, fMg, fQg]
  refine m_call (iCalledLead_ok nm st x cs b s call hnm' hc8' hcs' hbs' _ hoL.sq) ?_
  rintro _ w6 hxn hlc
  obtain ⟨x1, rfl, hoA⟩ := hlc.out
  have hmL := hmL.ext hxn
  have hkL := hkL.ext hxn
  have hoL := hoL.ext hxn
  have hxL := hxL.trans hxn
  simp only [↓vsd, vsn, gW, qd, qv, ev, pick, argE, zipE, ne_eq, eq_self, forall_const, implies_true, if_true, if_false, reduceIte, reduceCtorEq, Nat.reduceEqDiff, Nat.reduceAdd, Nat.reduceLT, ↓us_lFnCalls, r_lFnCalls]
  have l1 := hmL.lt
  have l2 := hkL.lt
  have l3 := hxL.size
  have aw := hoL.away (Nat.le_refl _)
  have awA := hoA.away (Nat.le_refl _)
  refine m_al ?_
  rintro bA w7 hbA hblkA hxn hsA
  have hmL := hmL.ext hxn
  have hkL := hkL.ext hxn
  have hoL := hoL.ext hxn
  have hxL := hxL.trans hxn
  have hoA := hoA.ext hxn
  simp only [↓vsd, vsn, gW, qd, qv, ev, pick, argE, zipE, ne_eq, eq_self, forall_const, implies_true, if_true, if_false, reduceIte, reduceCtorEq, Nat.reduceEqDiff, Nat.reduceAdd, Nat.reduceLT, ↓us_lFnCalls, r_lFnCalls]
  refine m_st hblkA rfl (Nat.le_refl 3) (fM_one _ _ x1 hoA.sq.one') ?_
  rintro w8 hblkA hu
  have hA : Blk w8 bA (fM (if CallOk nm st cs b s call then nm else []) (if CallOk nm st cs b s call then st else 0) x1) 41 := hblkA
  have hmL := hu.blk hmL (by omega)
  have hkL := hu.blk hkL (by omega)
  have hoL := hoL.upd hu (hbA ▸ aw)
  have hoA := hoA.upd hu (hbA ▸ awA)
  have hxL : Ext w w8 := hu.below hxL (by omega)
  clear hblkA hu hsA l1 l2 aw awA
  simp only [↓vsd, vsn, gW, qd, qv, ev, pick, argE, zipE, ne_eq, eq_self, forall_const, implies_true, if_true, if_false, reduceIte, reduceCtorEq, Nat.reduceEqDiff, Nat.reduceAdd, Nat.reduceLT, ↓us_lFnCalls, r_lFnCalls, hmL.facts, hkL.facts, fMg, fQg]
  refine m_call (sCalledLead_ok nm st x cs b s call hnm' hc8' hcs' hbs' _ hoL.sq) ?_
  rintro _ w9 hxn hlc
  obtain ⟨x2, rfl, hoB⟩ := hlc.out
  have hmL := hmL.ext hxn
  have hkL := hkL.ext hxn
  have hoL := hoL.ext hxn
  have hxL := hxL.trans hxn
  have hA := hA.ext hxn
  have hoA := hoA.ext hxn
  simp only [↓vsd, vsn, gW, qd, qv, ev, pick, argE, zipE, ne_eq, eq_self, forall_const, implies_true, if_true, if_false, reduceIte, reduceCtorEq, Nat.reduceEqDiff, Nat.reduceAdd, Nat.reduceLT, ↓us_lFnCalls, r_lFnCalls]
  have l1 := hmL.lt
  have l2 := hkL.lt
  have l3 := hA.lt
  have l4 : w.heap.size ≤ w9.heap.size := hxL.size
  have aw := hoL.away (Nat.le_refl _)
  have awA := hoA.away (Nat.le_refl _)
  have awB := hoB.away (Nat.le_refl _)
  refine m_al ?_
  rintro bB w10 hbB hblkB hxn hsB
  have hmL := hmL.ext hxn
  have hkL := hkL.ext hxn
  have hoL := hoL.ext hxn
  have hxL := hxL.trans hxn
  have hA := hA.ext hxn
  have hoA := hoA.ext hxn
  have hoB := hoB.ext hxn
  simp only [↓vsd, vsn, gW, qd, qv, ev, pick, argE, zipE, ne_eq, eq_self, forall_const, implies_true, if_true, if_false, reduceIte, reduceCtorEq, Nat.reduceEqDiff, Nat.reduceAdd, Nat.reduceLT, ↓us_lFnCalls, r_lFnCalls]
  refine m_st hblkB rfl (Nat.le_refl 3) (fM_one _ _ x2 hoB.sq.one') ?_
  rintro w11 hblkB hu
  have hB : Blk w11 bB (fM (if CallOk nm st cs b s call then nm else []) (if CallOk nm st cs b s call then st else 0) x2) 41 := hblkB
  have hmL := hu.blk hmL (by omega)
  have hkL := hu.blk hkL (by omega)
  have hA := hu.blk hA (by omega)
  have hoL := hoL.upd hu (hbB ▸ aw)
  have hoA := hoA.upd hu (hbB ▸ awA)
  have hoB := hoB.upd hu (hbB ▸ awB)
  have hxL : Ext w w11 := hu.below hxL (by omega)
  clear hblkB hu hsB l1 l2 l3 l4 aw awA awB
  simp only [↓vsd, vsn, gW, qd, qv, ev, pick, argE, zipE, ne_eq, eq_self, forall_const, implies_true, if_true, if_false, reduceIte, reduceCtorEq, Nat.reduceEqDiff, Nat.reduceAdd, Nat.reduceLT, ↓us_lFnCalls, r_lFnCalls, hmL.facts, hkL.facts, fMg, fQg]
  refine m_call (iCallHead_ok nm st x cs b s call hnm' hc8' hcs' hbs' _ hoL.sq) ?_
  rintro re w12 hxn hre
  rw [chV_eq] at hre
  subst hre
  have hmL := hmL.ext hxn
  have hkL := hkL.ext hxn
  have hoL := hoL.ext hxn
  have hxL := hxL.trans hxn
  have hA := hA.ext hxn
  have hB := hB.ext hxn
  have hoA := hoA.ext hxn
  have hoB := hoB.ext hxn
  simp only [↓vsd, vsn, gW, qd, qv, ev, pick, argE, zipE, ne_eq, eq_self, forall_const, implies_true, if_true, if_false, reduceIte, reduceCtorEq, Nat.reduceEqDiff, Nat.reduceAdd, Nat.reduceLT, ↓us_lFnCalls, r_lFnCalls, hmL.facts, hkL.facts, fMg, fQg]
  refine m_call (sCallHead_ok nm st x cs b s call hnm' hc8' hcs' hbs' _ hoL.sq) ?_
  rintro re w13 hxn hre
  rw [chV_eq] at hre
  subst hre
  have hmL := hmL.ext hxn
  have hkL := hkL.ext hxn
  have hoL := hoL.ext hxn
  have hxL := hxL.trans hxn
  have hA := hA.ext hxn
  have hB := hB.ext hxn
  have hoA := hoA.ext hxn
  have hoB := hoB.ext hxn
  simp only [↓vsd, vsn, gW, qd, qv, ev, pick, argE, zipE, ne_eq, eq_self, forall_const, implies_true, if_true, if_false, reduceIte, reduceCtorEq, Nat.reduceEqDiff, Nat.reduceAdd, Nat.reduceLT, ↓us_lFnCalls, r_lFnCalls, hmL.facts, hkL.facts, fMg, fQg]
  refine m_call (iCallRow_ok nm st x cs b s call hnm' hc8' hcs' hbs' _ hoL.sq) ?_
  rintro re w14 hxn hre
  rw [crV_eq] at hre
  subst hre
  have hmL := hmL.ext hxn
  have hkL := hkL.ext hxn
  have hoL := hoL.ext hxn
  have hxL := hxL.trans hxn
  have hA := hA.ext hxn
  have hB := hB.ext hxn
  have hoA := hoA.ext hxn
  have hoB := hoB.ext hxn
  simp only [↓vsd, vsn, gW, qd, qv, ev, pick, argE, zipE, ne_eq, eq_self, forall_const, implies_true, if_true, if_false, reduceIte, reduceCtorEq, Nat.reduceEqDiff, Nat.reduceAdd, Nat.reduceLT, ↓us_lFnCalls, r_lFnCalls, hmL.facts, hkL.facts, fMg, fQg]
  refine m_call (sCallRow_ok nm st x cs b s call hnm' hc8' hcs' hbs' _ hoL.sq) ?_
  rintro re w15 hxn hre
  rw [crV_eq] at hre
  subst hre
  have hmL := hmL.ext hxn
  have hkL := hkL.ext hxn
  have hoL := hoL.ext hxn
  have hxL := hxL.trans hxn
  have hA := hA.ext hxn
  have hB := hB.ext hxn
  have hoA := hoA.ext hxn
  have hoB := hoB.ext hxn
  simp only [↓vsd, vsn, gW, qd, qv, ev, pick, argE, zipE, ne_eq, eq_self, forall_const, implies_true, if_true, if_false, reduceIte, reduceCtorEq, Nat.reduceEqDiff, Nat.reduceAdd, Nat.reduceLT, ↓us_lFnCalls, r_lFnCalls, hmL.facts, hkL.facts, fMg, fQg]
  refine m_call (iCallOrder_ok nm st x cs b s call hnm' hc8' hcs' hbs' od hod _ hoL.sq) ?_
  rintro re w16 hxn hre
  rw [coV_eq] at hre
  subst hre
  have hmL := hmL.ext hxn
  have hkL := hkL.ext hxn
  have hoL := hoL.ext hxn
  have hxL := hxL.trans hxn
  have hA := hA.ext hxn
  have hB := hB.ext hxn
  have hoA := hoA.ext hxn
  have hoB := hoB.ext hxn
  simp only [↓vsd, vsn, gW, qd, qv, ev, pick, argE, zipE, ne_eq, eq_self, forall_const, implies_true, if_true, if_false, reduceIte, reduceCtorEq, Nat.reduceEqDiff, Nat.reduceAdd, Nat.reduceLT, ↓us_lFnCalls, r_lFnCalls, hmL.facts, hkL.facts, fMg, fQg]
  refine m_call (sCallOrder_ok nm st x cs b s call hnm' hc8' hcs' hbs' od hod _ hoL.sq) ?_
  rintro re w17 hxn hre
  rw [coV_eq] at hre
  subst hre
  have hmL := hmL.ext hxn
  have hkL := hkL.ext hxn
  have hoL := hoL.ext hxn
  have hxL := hxL.trans hxn
  have hA := hA.ext hxn
  have hB := hB.ext hxn
  have hoA := hoA.ext hxn
  have hoB := hoB.ext hxn
  simp only [↓vsd, vsn, gW, qd, qv, ev, pick, argE, zipE, ne_eq, eq_self, forall_const, implies_true, if_true, if_false, reduceIte, reduceCtorEq, Nat.reduceEqDiff, Nat.reduceAdd, Nat.reduceLT, ↓us_lFnCalls, r_lFnCalls, hmL.facts, hkL.facts, fMg, fQg]
  refine m_call (iMovedBells_ok nm st x cs b s call hnm' hc8' hcs' hbs' _ hoL.sq) ?_
  rintro _ w18 hxn ⟨y1, rfl, hy1⟩
  have hmL := hmL.ext hxn
  have hkL := hkL.ext hxn
  have hoL := hoL.ext hxn
  have hxL := hxL.trans hxn
  have hA := hA.ext hxn
  have hB := hB.ext hxn
  have hoA := hoA.ext hxn
  have hoB := hoB.ext hxn
  simp only [↓vsd, vsn, gW, qd, qv, ev, pick, argE, zipE, ne_eq, eq_self, forall_const, implies_true, if_true, if_false, reduceIte, reduceCtorEq, Nat.reduceEqDiff, Nat.reduceAdd, Nat.reduceLT, ↓us_lFnCalls, r_lFnCalls, hmL.facts, hkL.facts, fMg, fQg]
  refine m_call (sMovedBells_ok nm st x cs b s call hnm' hc8' hcs' hbs' _ hoL.sq) ?_
  rintro _ w19 hxn ⟨y2, rfl, hy2⟩
  have hy1 := hy1.ext hxn
  have hmL := hmL.ext hxn
  have hkL := hkL.ext hxn
  have hoL := hoL.ext hxn
  have hxL := hxL.trans hxn
  have hA := hA.ext hxn
  have hB := hB.ext hxn
  have hoA := hoA.ext hxn
  have hoB := hoB.ext hxn
  have hm19 := hmL
  have hk19 := hkL
  have hml1 : (mvV nm st cs b s call).length ≤ 1000000000 := by
    unfold mvV
    split
    · have := movedL_len (rowC st.toNat cs b s call) st.toNat; omega
    · simp
  simp only [↓vsd, vsn, gW, qd, qv, ev, pick, argE, zipE, ne_eq, eq_self, forall_const, implies_true, if_true, if_false, reduceIte, reduceCtorEq, Nat.reduceEqDiff, Nat.reduceAdd, Nat.reduceLT, ↓us_lFnCalls, r_lFnCalls, hA.facts, hB.facts, fMg]
  refine m_call (sSameMethod_ok _ _ _ _ x1 x2 _ _ (cs2_len hcs) _ hoA.sq hoB.sq) ?_
  rintro _ w20 hxn rfl
  have hxn : Ext w19 w20 := by first | exact hxn | exact ud hxn | exact ud (ud hxn)
  have hmL := hmL.ext hxn
  have hkL := hkL.ext hxn
  have hoL := hoL.ext hxn
  have hxL := hxL.trans hxn
  have hA := hA.ext hxn
  have hB := hB.ext hxn
  have hoA := hoA.ext hxn
  have hoB := hoB.ext hxn
  have hy1 := hy1.ext hxn
  have hy2 := hy2.ext hxn
  simp only [↓vsd, vsn, gW, qd, qv, ev, pick, argE, zipE, ne_eq, eq_self, forall_const, implies_true, if_true, if_false, reduceIte, reduceCtorEq, Nat.reduceEqDiff, Nat.reduceAdd, Nat.reduceLT, ↓us_lFnCalls, r_lFnCalls]
  refine m_call (lqSameN_ok y1 y2 _ _ _ hy1.sq hy2.sq hml1) ?_
  rintro _ w21 hxn rfl
  have hxn : Ext w20 w21 := by first | exact hxn | exact ud hxn | exact ud (ud hxn)
  have hmL := hmL.ext hxn
  have hkL := hkL.ext hxn
  have hoL := hoL.ext hxn
  have hxL := hxL.trans hxn
  have hA := hA.ext hxn
  have hB := hB.ext hxn
  have hoA := hoA.ext hxn
  have hoB := hoB.ext hxn
  have hy1 := hy1.ext hxn
  simp only [↓vsd, vsn, gW, qd, qv, ev, pick, argE, zipE, ne_eq, eq_self, forall_const, implies_true, if_true, if_false, reduceIte, reduceCtorEq, Nat.reduceEqDiff, Nat.reduceAdd, Nat.reduceLT, ↓us_lFnCalls, r_lFnCalls, hmL.facts, hkL.facts, hm19.facts, hk19.facts, fMg, fQg]
  refine m_call (iGoodCalls_ok nm st x cs b s hnm' hc8' hcs' hbs' _ hoL.sq) ?_
  rintro _ w22 hxn rfl
  have hxn : Ext w21 w22 := by first | exact hxn | exact ud hxn | exact ud (ud hxn)
  have hmL := hmL.ext hxn
  have hkL := hkL.ext hxn
  have hoL := hoL.ext hxn
  have hxL := hxL.trans hxn
  have hA := hA.ext hxn
  have hB := hB.ext hxn
  have hoA := hoA.ext hxn
  have hoB := hoB.ext hxn
  have hy1 := hy1.ext hxn
  simp only [↓vsd, vsn, gW, qd, qv, ev, pick, argE, zipE, ne_eq, eq_self, forall_const, implies_true, if_true, if_false, reduceIte, reduceCtorEq, Nat.reduceEqDiff, Nat.reduceAdd, Nat.reduceLT, ↓us_lFnCalls, r_lFnCalls, hmL.facts, hkL.facts, hm19.facts, hk19.facts, fMg, fQg]
  refine m_call (sGoodCalls_ok nm st x cs b s hnm' hc8' hcs' hbs' _ hoL.sq) ?_
  rintro _ w23 hxn rfl
  have hxn : Ext w22 w23 := by first | exact hxn | exact ud hxn | exact ud (ud hxn)
  have hmL := hmL.ext hxn
  have hkL := hkL.ext hxn
  have hoL := hoL.ext hxn
  have hxL := hxL.trans hxn
  have hA := hA.ext hxn
  have hB := hB.ext hxn
  have hoA := hoA.ext hxn
  have hoB := hoB.ext hxn
  have hy1 := hy1.ext hxn
  by_cases hok : CallOk nm st cs b s call
  · obtain ⟨n, rfl⟩ : ∃ n : Nat, st = n := ⟨st.toNat, by omega⟩
    have hokD := decide_eq_true hok
    have hM := hok.1
    have h8 : 3 ≤ n ∧ n ≤ 8 := by have := hM.1.2.1; omega
    have hrow := rowC_row hM call
    have hord := hod hok
    rw [Int.toNat_natCast] at hord
    simp only [if_pos hok] at hA hB hoA hoB
    simp only [↓vsd, vsn, gW, qd, qv, ev, pick, argE, zipE, ne_eq, eq_self, forall_const, implies_true, if_true, if_false, reduceIte, reduceCtorEq, Nat.reduceEqDiff, Nat.reduceAdd, Nat.reduceLT, ↓us_lFnCalls, r_lFnCalls, hokD, hok, hA.facts, fMg]
    refine m_call (sLeadHead_ok nm n x1 _ hnm' (fun c hc => by have := ((hM.called call).2.2.2 c hc).small; omega) (by rw [calledCs_len _ _ _ _ hM.1.2.2.1.1]; exact hcs') _ hoA.sq) ?_
    rintro re w24 hxn hre
    have hxn : Ext w23 w24 := by first | exact hxn | exact ud hxn | exact ud (ud hxn)
    rw [headV, if_pos (hM.called call), Int.toNat_natCast] at hre
    subst hre
    have hmL := hmL.ext hxn
    have hkL := hkL.ext hxn
    have hoL := hoL.ext hxn
    have hxL := hxL.trans hxn
    have hA := hA.ext hxn
    have hB := hB.ext hxn
    have hoA := hoA.ext hxn
    have hoB := hoB.ext hxn
    have hy1 := hy1.ext hxn
    simp only [↓vsd, vsn, gW, qd, qv, ev, pick, argE, zipE, ne_eq, eq_self, forall_const, implies_true, if_true, if_false, reduceIte, reduceCtorEq, Nat.reduceEqDiff, Nat.reduceAdd, Nat.reduceLT, ↓us_lFnCalls, r_lFnCalls, hmL.facts, fMg]
    refine m_call (sLeadHead_ok nm n x cs hnm' hc8' hcs' _ hoL.sq) ?_
    rintro re w25 hxn hre
    have hxn : Ext w24 w25 := by first | exact hxn | exact ud hxn | exact ud (ud hxn)
    rw [headV, if_pos hM.1, Int.toNat_natCast] at hre
    subst hre
    have hmL := hmL.ext hxn
    have hkL := hkL.ext hxn
    have hoL := hoL.ext hxn
    have hxL := hxL.trans hxn
    have hA := hA.ext hxn
    have hB := hB.ext hxn
    have hoA := hoA.ext hxn
    have hoB := hoB.ext hxn
    have hy1 := hy1.ext hxn
    simp only [↓vsd, vsn, gW, qd, qv, ev, pick, argE, zipE, ne_eq, eq_self, forall_const, implies_true, if_true, if_false, reduceIte, reduceCtorEq, Nat.reduceEqDiff, Nat.reduceAdd, Nat.reduceLT, ↓us_lFnCalls, r_lFnCalls]
    refine m_call (sTimes_ok _ _ _) ?_
    rintro re w26 hxn hre
    have hxn : Ext w25 w26 := by first | exact hxn | exact ud hxn | exact ud (ud hxn)
    have hu := under_row h8 cs
    rw [timesV, if_pos ⟨hu.1, hrow.1, by rw [hu.2, hrow.2]⟩, head_row hM call] at hre
    subst hre
    have hmL := hmL.ext hxn
    have hkL := hkL.ext hxn
    have hoL := hoL.ext hxn
    have hxL := hxL.trans hxn
    have hA := hA.ext hxn
    have hB := hB.ext hxn
    have hoA := hoA.ext hxn
    have hoB := hoB.ext hxn
    have hy1 := hy1.ext hxn
    simp only [↓vsd, vsn, gW, qd, qv, ev, pick, argE, zipE, ne_eq, eq_self, forall_const, implies_true, if_true, if_false, reduceIte, reduceCtorEq, Nat.reduceEqDiff, Nat.reduceAdd, Nat.reduceLT, ↓us_lFnCalls, r_lFnCalls, hmL.facts, fMg]
    refine m_call (sRoundsOf_ok n _) ?_
    rintro re w27 hxn hre
    have hxn : Ext w26 w27 := by first | exact hxn | exact ud hxn | exact ud (ud hxn)
    rw [roundsV, if_pos (by omega), Int.toNat_natCast] at hre
    subst hre
    have hmL := hmL.ext hxn
    have hkL := hkL.ext hxn
    have hoL := hoL.ext hxn
    have hxL := hxL.trans hxn
    have hA := hA.ext hxn
    have hB := hB.ext hxn
    have hoA := hoA.ext hxn
    have hoB := hoB.ext hxn
    have hy1 := hy1.ext hxn
    simp only [↓vsd, vsn, gW, qd, qv, ev, pick, argE, zipE, ne_eq, eq_self, forall_const, implies_true, if_true, if_false, reduceIte, reduceCtorEq, Nat.reduceEqDiff, Nat.reduceAdd, Nat.reduceLT, ↓us_lFnCalls, r_lFnCalls]
    refine m_call (sPowerOf_ok _ _ _) ?_
    rintro re w28 hxn hre
    have hxn : Ext w27 w28 := by first | exact hxn | exact ud hxn | exact ud (ud hxn)
    rw [powV, if_pos ⟨hrow.1, by have := hord.1; omega, by omega⟩, powZ, if_neg (by omega), Int.toNat_natCast, hord.2.2.1, hrow.2] at hre
    subst hre
    have hmL := hmL.ext hxn
    have hkL := hkL.ext hxn
    have hoL := hoL.ext hxn
    have hxL := hxL.trans hxn
    have hA := hA.ext hxn
    have hB := hB.ext hxn
    have hoA := hoA.ext hxn
    have hoB := hoB.ext hxn
    have hy1 := hy1.ext hxn
    have hde : underL (roundsL n) (calledCs cs b s call) = headC n cs b s call := rfl
    have hmv : mvV nm n cs b s call = movedL (rowC n cs b s call) n := by rw [mvV, if_pos hok]; rfl
    have hpl : call = [112] → ¬ (0 : Int) < ((mvV nm n cs b s call).length : Int) := fun e => by rw [hmv, e, plain_moves hM]; simp
    simp only [↓vsd, vsn, gW, qd, qv, ev, pick, argE, zipE, ne_eq, eq_self, forall_const, implies_true, if_true, if_false, reduceIte, reduceCtorEq, Nat.reduceEqDiff, Nat.reduceAdd, Nat.reduceLT, ↓us_lFnCalls, r_lFnCalls, hde, hy1.sq.facts]
    by_cases hp : call = [112]
    · have hmv0 : mvV nm n cs b s [112] = [] := by rw [← hp, hmv, hp, plain_moves hM]
      have h00 : ¬ (0 : Int) < ((0 : Nat) : Int) := by decide
      have h01 : ((0 : Nat) : Int) ≤ 0 := by decide
      simp only [↓vsd, vsn, gW, qd, qv, ev, pick, argE, zipE, ne_eq, eq_self, forall_const, implies_true, if_true, if_false, reduceIte, reduceCtorEq, Nat.reduceEqDiff, Nat.reduceAdd, Nat.reduceLT, ↓us_lFnCalls, r_lFnCalls, hp, hmv0, h00, h01]
      refine m_call (sDrawSameLead_ok u more hlen.2 _ (h'.ext hxL)) ?_
      rintro _ t1 hxn ⟨nm3, st3, x3, cs3, b3, s3, ca, cb, rfl, ⟨ho3, hnm3, hst3, hcs3, hc83, hbs3⟩, hca, hcb⟩
      have hxT : Ext w t1 := hxL.trans hxn
      simp only [↓vsd, vsn, gW, qd, qv, ev, pick, argE, zipE, ne_eq, eq_self, forall_const, implies_true, if_true, if_false, reduceIte, reduceCtorEq, Nat.reduceEqDiff, Nat.reduceAdd, Nat.reduceLT, ↓us_lFnCalls, r_lFnCalls, ext4]
      refine m_al ?_
      rintro bu t2 hbu hblku hx2 hs2
      simp only [↓vsd, vsn, gW, qd, qv, ev, pick, argE, zipE, ne_eq, eq_self, forall_const, implies_true, if_true, if_false, reduceIte, reduceCtorEq, Nat.reduceEqDiff, Nat.reduceAdd, Nat.reduceLT, ↓us_lFnCalls, r_lFnCalls]
      refine m_al ?_
      rintro bv t3 hbv hblkv hx3 hs3
      simp only [↓vsd, vsn, gW, qd, qv, ev, pick, argE, zipE, ne_eq, eq_self, forall_const, implies_true, if_true, if_false, reduceIte, reduceCtorEq, Nat.reduceEqDiff, Nat.reduceAdd, Nat.reduceLT, ↓us_lFnCalls, r_lFnCalls]
      refine m_st (Blk.ext hblku hx3) rfl (Nat.le_refl 3) (fM_one nm3 st3 x3 ho3.sq.one') ?_
      rintro t4 hblk4 hu4
      have hm4 : Blk t4 bu (fM nm3 st3 x3) 41 := hblk4
      simp only [↓vsd, vsn, gW, qd, qv, ev, pick, argE, zipE, ne_eq, eq_self, forall_const, implies_true, if_true, if_false, reduceIte, reduceCtorEq, Nat.reduceEqDiff, Nat.reduceAdd, Nat.reduceLT, ↓us_lFnCalls, r_lFnCalls]
      refine m_st (hu4.blk hblkv (by omega)) rfl (Nat.le_refl 2) (fQ_one b3 s3) ?_
      rintro t5 hblk5 hu5
      have hkL : Blk t5 bv (fQ b3 s3) 32 := hblk5
      have hmL := hu5.blk hm4 (by omega)
      have hoL := (((ho3.ext hx2).ext hx3).upd hu4 (ho3.away (by omega))).upd hu5 (ho3.away (by omega))
      have hxL : Ext w t5 := hu5.below (hu4.below ((hxT.trans hx2).trans hx3) (by have := hxT.size; omega)) (by have := hxT.size; omega)
      have hnm3' : nm3.length ≤ 1048576 := by omega
      have hc83' : ∀ c ∈ cs3, c.length ≤ 1048576 := fun c hc => by have := hc83 c hc; omega
      have hcs3' : cs3.length ≤ 1000000000 := by omega
      have hbs3' : b3.length ≤ 1048576 ∧ s3.length ≤ 1048576 := by omega
      obtain ⟨sx, hsx⟩ := slV_eq nm3 st3 cs3 b3 s3 ca cb
      simp only [↓vsd, vsn, gW, qd, qv, ev, pick, argE, zipE, ne_eq, eq_self, forall_const, implies_true, if_true, if_false, reduceIte, reduceCtorEq, Nat.reduceEqDiff, Nat.reduceAdd, Nat.reduceLT, ↓us_lFnCalls, r_lFnCalls, hmL.facts, hkL.facts, fMg, fQg]
      refine m_call (iSameLead_ok nm3 st3 x3 cs3 b3 s3 ca cb hnm3' hc83' hcs3' hbs3' _ hoL.sq) ?_
      rintro re t6 hxn hre
      rw [hsx] at hre
      subst hre
      have hmL := hmL.ext hxn
      have hkL := hkL.ext hxn
      have hoL := hoL.ext hxn
      have hxL := hxL.trans hxn
      simp only [↓vsd, vsn, gW, qd, qv, ev, pick, argE, zipE, ne_eq, eq_self, forall_const, implies_true, if_true, if_false, reduceIte, reduceCtorEq, Nat.reduceEqDiff, Nat.reduceAdd, Nat.reduceLT, ↓us_lFnCalls, r_lFnCalls, hmL.facts, hkL.facts, fMg, fQg]
      refine m_call (sSameLead_ok nm3 st3 x3 cs3 b3 s3 ca cb hnm3' hc83' hcs3' hbs3' _ hoL.sq) ?_
      rintro re t7 hxn hre
      rw [hsx] at hre
      subst hre
      have hmL := hmL.ext hxn
      have hkL := hkL.ext hxn
      have hoL := hoL.ext hxn
      have hxL := hxL.trans hxn
      simp only [↓vsd, vsn, gW, qd, qv, ev, pick, argE, zipE, ne_eq, eq_self, forall_const, implies_true, if_true, if_false, reduceIte, reduceCtorEq, Nat.reduceEqDiff, Nat.reduceAdd, Nat.reduceLT, ↓us_lFnCalls, r_lFnCalls, hmL.facts, hkL.facts, fMg, fQg]
      refine m_call (iCallHeads_ok nm3 st3 x3 cs3 b3 s3 hnm3' hc83' hcs3' hbs3' _ hoL.sq) ?_
      rintro _ t8 hxn ⟨z1, rfl, hz1⟩
      have hmL := hmL.ext hxn
      have hkL := hkL.ext hxn
      have hoL := hoL.ext hxn
      have hxL := hxL.trans hxn
      simp only [↓vsd, vsn, gW, qd, qv, ev, pick, argE, zipE, ne_eq, eq_self, forall_const, implies_true, if_true, if_false, reduceIte, reduceCtorEq, Nat.reduceEqDiff, Nat.reduceAdd, Nat.reduceLT, ↓us_lFnCalls, r_lFnCalls, hmL.facts, hkL.facts, fMg, fQg]
      refine m_call (sCallHeads_ok nm3 st3 x3 cs3 b3 s3 hnm3' hc83' hcs3' hbs3' _ hoL.sq) ?_
      rintro _ t9 hxn ⟨z2, rfl, hz2⟩
      have hz1 := hz1.ext hxn
      have hmL := hmL.ext hxn
      have hkL := hkL.ext hxn
      have hoL := hoL.ext hxn
      have hxL := hxL.trans hxn
      simp only [↓vsd, vsn, gW, qd, qv, ev, pick, argE, zipE, ne_eq, eq_self, forall_const, implies_true, if_true, if_false, reduceIte, reduceCtorEq, Nat.reduceEqDiff, Nat.reduceAdd, Nat.reduceLT, ↓us_lFnCalls, r_lFnCalls]
      refine m_call (lqSameS_ok z1 z2 _ _ _ hz1.sq hz2.sq (by unfold headsC; split <;> simp)) ?_
      rintro _ t10 hxn rfl
      have hxn : Ext t9 t10 := by first | exact hxn | exact ud hxn | exact ud (ud hxn)
      simp only [↓vsd, vsn, gW, qd, qv, ev, pick, argE, zipE, ne_eq, eq_self, forall_const, implies_true, if_true, if_false, reduceIte, reduceCtorEq, Nat.reduceEqDiff, Nat.reduceAdd, Nat.reduceLT, ↓us_lFnCalls, r_lFnCalls]
      exact hxL.trans hxn
    · simp only [↓vsd, vsn, gW, qd, qv, ev, pick, argE, zipE, ne_eq, eq_self, forall_const, implies_true, if_true, if_false, reduceIte, reduceCtorEq, Nat.reduceEqDiff, Nat.reduceAdd, Nat.reduceLT, ↓us_lFnCalls, r_lFnCalls, hp]
      refine m_call (sDrawSameLead_ok u more hlen.2 _ (h'.ext hxL)) ?_
      rintro _ t1 hxn ⟨nm3, st3, x3, cs3, b3, s3, ca, cb, rfl, ⟨ho3, hnm3, hst3, hcs3, hc83, hbs3⟩, hca, hcb⟩
      have hxT : Ext w t1 := hxL.trans hxn
      simp only [↓vsd, vsn, gW, qd, qv, ev, pick, argE, zipE, ne_eq, eq_self, forall_const, implies_true, if_true, if_false, reduceIte, reduceCtorEq, Nat.reduceEqDiff, Nat.reduceAdd, Nat.reduceLT, ↓us_lFnCalls, r_lFnCalls, ext4]
      refine m_al ?_
      rintro bu t2 hbu hblku hx2 hs2
      simp only [↓vsd, vsn, gW, qd, qv, ev, pick, argE, zipE, ne_eq, eq_self, forall_const, implies_true, if_true, if_false, reduceIte, reduceCtorEq, Nat.reduceEqDiff, Nat.reduceAdd, Nat.reduceLT, ↓us_lFnCalls, r_lFnCalls]
      refine m_al ?_
      rintro bv t3 hbv hblkv hx3 hs3
      simp only [↓vsd, vsn, gW, qd, qv, ev, pick, argE, zipE, ne_eq, eq_self, forall_const, implies_true, if_true, if_false, reduceIte, reduceCtorEq, Nat.reduceEqDiff, Nat.reduceAdd, Nat.reduceLT, ↓us_lFnCalls, r_lFnCalls]
      refine m_st (Blk.ext hblku hx3) rfl (Nat.le_refl 3) (fM_one nm3 st3 x3 ho3.sq.one') ?_
      rintro t4 hblk4 hu4
      have hm4 : Blk t4 bu (fM nm3 st3 x3) 41 := hblk4
      simp only [↓vsd, vsn, gW, qd, qv, ev, pick, argE, zipE, ne_eq, eq_self, forall_const, implies_true, if_true, if_false, reduceIte, reduceCtorEq, Nat.reduceEqDiff, Nat.reduceAdd, Nat.reduceLT, ↓us_lFnCalls, r_lFnCalls]
      refine m_st (hu4.blk hblkv (by omega)) rfl (Nat.le_refl 2) (fQ_one b3 s3) ?_
      rintro t5 hblk5 hu5
      have hkL : Blk t5 bv (fQ b3 s3) 32 := hblk5
      have hmL := hu5.blk hm4 (by omega)
      have hoL := (((ho3.ext hx2).ext hx3).upd hu4 (ho3.away (by omega))).upd hu5 (ho3.away (by omega))
      have hxL : Ext w t5 := hu5.below (hu4.below ((hxT.trans hx2).trans hx3) (by have := hxT.size; omega)) (by have := hxT.size; omega)
      have hnm3' : nm3.length ≤ 1048576 := by omega
      have hc83' : ∀ c ∈ cs3, c.length ≤ 1048576 := fun c hc => by have := hc83 c hc; omega
      have hcs3' : cs3.length ≤ 1000000000 := by omega
      have hbs3' : b3.length ≤ 1048576 ∧ s3.length ≤ 1048576 := by omega
      obtain ⟨sx, hsx⟩ := slV_eq nm3 st3 cs3 b3 s3 ca cb
      simp only [↓vsd, vsn, gW, qd, qv, ev, pick, argE, zipE, ne_eq, eq_self, forall_const, implies_true, if_true, if_false, reduceIte, reduceCtorEq, Nat.reduceEqDiff, Nat.reduceAdd, Nat.reduceLT, ↓us_lFnCalls, r_lFnCalls, hmL.facts, hkL.facts, fMg, fQg]
      refine m_call (iSameLead_ok nm3 st3 x3 cs3 b3 s3 ca cb hnm3' hc83' hcs3' hbs3' _ hoL.sq) ?_
      rintro re t6 hxn hre
      rw [hsx] at hre
      subst hre
      have hmL := hmL.ext hxn
      have hkL := hkL.ext hxn
      have hoL := hoL.ext hxn
      have hxL := hxL.trans hxn
      simp only [↓vsd, vsn, gW, qd, qv, ev, pick, argE, zipE, ne_eq, eq_self, forall_const, implies_true, if_true, if_false, reduceIte, reduceCtorEq, Nat.reduceEqDiff, Nat.reduceAdd, Nat.reduceLT, ↓us_lFnCalls, r_lFnCalls, hmL.facts, hkL.facts, fMg, fQg]
      refine m_call (sSameLead_ok nm3 st3 x3 cs3 b3 s3 ca cb hnm3' hc83' hcs3' hbs3' _ hoL.sq) ?_
      rintro re t7 hxn hre
      rw [hsx] at hre
      subst hre
      have hmL := hmL.ext hxn
      have hkL := hkL.ext hxn
      have hoL := hoL.ext hxn
      have hxL := hxL.trans hxn
      simp only [↓vsd, vsn, gW, qd, qv, ev, pick, argE, zipE, ne_eq, eq_self, forall_const, implies_true, if_true, if_false, reduceIte, reduceCtorEq, Nat.reduceEqDiff, Nat.reduceAdd, Nat.reduceLT, ↓us_lFnCalls, r_lFnCalls, hmL.facts, hkL.facts, fMg, fQg]
      refine m_call (iCallHeads_ok nm3 st3 x3 cs3 b3 s3 hnm3' hc83' hcs3' hbs3' _ hoL.sq) ?_
      rintro _ t8 hxn ⟨z1, rfl, hz1⟩
      have hmL := hmL.ext hxn
      have hkL := hkL.ext hxn
      have hoL := hoL.ext hxn
      have hxL := hxL.trans hxn
      simp only [↓vsd, vsn, gW, qd, qv, ev, pick, argE, zipE, ne_eq, eq_self, forall_const, implies_true, if_true, if_false, reduceIte, reduceCtorEq, Nat.reduceEqDiff, Nat.reduceAdd, Nat.reduceLT, ↓us_lFnCalls, r_lFnCalls, hmL.facts, hkL.facts, fMg, fQg]
      refine m_call (sCallHeads_ok nm3 st3 x3 cs3 b3 s3 hnm3' hc83' hcs3' hbs3' _ hoL.sq) ?_
      rintro _ t9 hxn ⟨z2, rfl, hz2⟩
      have hz1 := hz1.ext hxn
      have hmL := hmL.ext hxn
      have hkL := hkL.ext hxn
      have hoL := hoL.ext hxn
      have hxL := hxL.trans hxn
      simp only [↓vsd, vsn, gW, qd, qv, ev, pick, argE, zipE, ne_eq, eq_self, forall_const, implies_true, if_true, if_false, reduceIte, reduceCtorEq, Nat.reduceEqDiff, Nat.reduceAdd, Nat.reduceLT, ↓us_lFnCalls, r_lFnCalls]
      refine m_call (lqSameS_ok z1 z2 _ _ _ hz1.sq hz2.sq (by unfold headsC; split <;> simp)) ?_
      rintro _ t10 hxn rfl
      have hxn : Ext t9 t10 := by first | exact hxn | exact ud hxn | exact ud (ud hxn)
      simp only [↓vsd, vsn, gW, qd, qv, ev, pick, argE, zipE, ne_eq, eq_self, forall_const, implies_true, if_true, if_false, reduceIte, reduceCtorEq, Nat.reduceEqDiff, Nat.reduceAdd, Nat.reduceLT, ↓us_lFnCalls, r_lFnCalls]
      exact hxL.trans hxn
  · have hokD := decide_eq_false hok
    simp only [↓vsd, vsn, gW, qd, qv, ev, pick, argE, zipE, ne_eq, eq_self, forall_const, implies_true, if_true, if_false, reduceIte, reduceCtorEq, Nat.reduceEqDiff, Nat.reduceAdd, Nat.reduceLT, ↓us_lFnCalls, r_lFnCalls, hokD, hok]
    refine m_call (sDrawSameLead_ok u more hlen.2 _ (h'.ext hxL)) ?_
    rintro _ t1 hxn ⟨nm3, st3, x3, cs3, b3, s3, ca, cb, rfl, ⟨ho3, hnm3, hst3, hcs3, hc83, hbs3⟩, hca, hcb⟩
    have hxT : Ext w t1 := hxL.trans hxn
    simp only [↓vsd, vsn, gW, qd, qv, ev, pick, argE, zipE, ne_eq, eq_self, forall_const, implies_true, if_true, if_false, reduceIte, reduceCtorEq, Nat.reduceEqDiff, Nat.reduceAdd, Nat.reduceLT, ↓us_lFnCalls, r_lFnCalls, ext4]
    refine m_al ?_
    rintro bu t2 hbu hblku hx2 hs2
    simp only [↓vsd, vsn, gW, qd, qv, ev, pick, argE, zipE, ne_eq, eq_self, forall_const, implies_true, if_true, if_false, reduceIte, reduceCtorEq, Nat.reduceEqDiff, Nat.reduceAdd, Nat.reduceLT, ↓us_lFnCalls, r_lFnCalls]
    refine m_al ?_
    rintro bv t3 hbv hblkv hx3 hs3
    simp only [↓vsd, vsn, gW, qd, qv, ev, pick, argE, zipE, ne_eq, eq_self, forall_const, implies_true, if_true, if_false, reduceIte, reduceCtorEq, Nat.reduceEqDiff, Nat.reduceAdd, Nat.reduceLT, ↓us_lFnCalls, r_lFnCalls]
    refine m_st (Blk.ext hblku hx3) rfl (Nat.le_refl 3) (fM_one nm3 st3 x3 ho3.sq.one') ?_
    rintro t4 hblk4 hu4
    have hm4 : Blk t4 bu (fM nm3 st3 x3) 41 := hblk4
    simp only [↓vsd, vsn, gW, qd, qv, ev, pick, argE, zipE, ne_eq, eq_self, forall_const, implies_true, if_true, if_false, reduceIte, reduceCtorEq, Nat.reduceEqDiff, Nat.reduceAdd, Nat.reduceLT, ↓us_lFnCalls, r_lFnCalls]
    refine m_st (hu4.blk hblkv (by omega)) rfl (Nat.le_refl 2) (fQ_one b3 s3) ?_
    rintro t5 hblk5 hu5
    have hkL : Blk t5 bv (fQ b3 s3) 32 := hblk5
    have hmL := hu5.blk hm4 (by omega)
    have hoL := (((ho3.ext hx2).ext hx3).upd hu4 (ho3.away (by omega))).upd hu5 (ho3.away (by omega))
    have hxL : Ext w t5 := hu5.below (hu4.below ((hxT.trans hx2).trans hx3) (by have := hxT.size; omega)) (by have := hxT.size; omega)
    have hnm3' : nm3.length ≤ 1048576 := by omega
    have hc83' : ∀ c ∈ cs3, c.length ≤ 1048576 := fun c hc => by have := hc83 c hc; omega
    have hcs3' : cs3.length ≤ 1000000000 := by omega
    have hbs3' : b3.length ≤ 1048576 ∧ s3.length ≤ 1048576 := by omega
    obtain ⟨sx, hsx⟩ := slV_eq nm3 st3 cs3 b3 s3 ca cb
    simp only [↓vsd, vsn, gW, qd, qv, ev, pick, argE, zipE, ne_eq, eq_self, forall_const, implies_true, if_true, if_false, reduceIte, reduceCtorEq, Nat.reduceEqDiff, Nat.reduceAdd, Nat.reduceLT, ↓us_lFnCalls, r_lFnCalls, hmL.facts, hkL.facts, fMg, fQg]
    refine m_call (iSameLead_ok nm3 st3 x3 cs3 b3 s3 ca cb hnm3' hc83' hcs3' hbs3' _ hoL.sq) ?_
    rintro re t6 hxn hre
    rw [hsx] at hre
    subst hre
    have hmL := hmL.ext hxn
    have hkL := hkL.ext hxn
    have hoL := hoL.ext hxn
    have hxL := hxL.trans hxn
    simp only [↓vsd, vsn, gW, qd, qv, ev, pick, argE, zipE, ne_eq, eq_self, forall_const, implies_true, if_true, if_false, reduceIte, reduceCtorEq, Nat.reduceEqDiff, Nat.reduceAdd, Nat.reduceLT, ↓us_lFnCalls, r_lFnCalls, hmL.facts, hkL.facts, fMg, fQg]
    refine m_call (sSameLead_ok nm3 st3 x3 cs3 b3 s3 ca cb hnm3' hc83' hcs3' hbs3' _ hoL.sq) ?_
    rintro re t7 hxn hre
    rw [hsx] at hre
    subst hre
    have hmL := hmL.ext hxn
    have hkL := hkL.ext hxn
    have hoL := hoL.ext hxn
    have hxL := hxL.trans hxn
    simp only [↓vsd, vsn, gW, qd, qv, ev, pick, argE, zipE, ne_eq, eq_self, forall_const, implies_true, if_true, if_false, reduceIte, reduceCtorEq, Nat.reduceEqDiff, Nat.reduceAdd, Nat.reduceLT, ↓us_lFnCalls, r_lFnCalls, hmL.facts, hkL.facts, fMg, fQg]
    refine m_call (iCallHeads_ok nm3 st3 x3 cs3 b3 s3 hnm3' hc83' hcs3' hbs3' _ hoL.sq) ?_
    rintro _ t8 hxn ⟨z1, rfl, hz1⟩
    have hmL := hmL.ext hxn
    have hkL := hkL.ext hxn
    have hoL := hoL.ext hxn
    have hxL := hxL.trans hxn
    simp only [↓vsd, vsn, gW, qd, qv, ev, pick, argE, zipE, ne_eq, eq_self, forall_const, implies_true, if_true, if_false, reduceIte, reduceCtorEq, Nat.reduceEqDiff, Nat.reduceAdd, Nat.reduceLT, ↓us_lFnCalls, r_lFnCalls, hmL.facts, hkL.facts, fMg, fQg]
    refine m_call (sCallHeads_ok nm3 st3 x3 cs3 b3 s3 hnm3' hc83' hcs3' hbs3' _ hoL.sq) ?_
    rintro _ t9 hxn ⟨z2, rfl, hz2⟩
    have hz1 := hz1.ext hxn
    have hmL := hmL.ext hxn
    have hkL := hkL.ext hxn
    have hoL := hoL.ext hxn
    have hxL := hxL.trans hxn
    simp only [↓vsd, vsn, gW, qd, qv, ev, pick, argE, zipE, ne_eq, eq_self, forall_const, implies_true, if_true, if_false, reduceIte, reduceCtorEq, Nat.reduceEqDiff, Nat.reduceAdd, Nat.reduceLT, ↓us_lFnCalls, r_lFnCalls]
    refine m_call (lqSameS_ok z1 z2 _ _ _ hz1.sq hz2.sq (by unfold headsC; split <;> simp)) ?_
    rintro _ t10 hxn rfl
    have hxn : Ext t9 t10 := by first | exact hxn | exact ud hxn | exact ud (ud hxn)
    simp only [↓vsd, vsn, gW, qd, qv, ev, pick, argE, zipE, ne_eq, eq_self, forall_const, implies_true, if_true, if_false, reduceIte, reduceCtorEq, Nat.reduceEqDiff, Nat.reduceAdd, Nat.reduceLT, ↓us_lFnCalls, r_lFnCalls]
    exact hxL.trans hxn
end Go.Proofs.Ytpnopboffalfnaa
