/-
  Coursing orders and their rows; the call of the law FnCourse.
  Conditions: none.
-/
import Derived.Test.YtjcnmobdlkmaeaaD16
import Derived.Test.YtjcnmobdlkmaeaaD3
set_option linter.unusedSimpArgs false
set_option linter.unusedVariables false
set_option linter.defProp false
namespace Go.Proofs.Ytjcnmobdlkmaeaa
open Go Go.RowKit
def t_sLeadHead_1 : X := (.cond (.t 6) (.seq (.reg [2, 3] (.c (.q 2 [] (.mv (.s []))) (.c (.q 3 [] (.mv (.c (.bool false)))) .nil))) .ret) .skip)
theorem u_sLeadHead_1 (P : Program) (k : KT) (e : Env) (w : World) : vcK P t_sLeadHead_1 k e w = vcK P (.cond (.t 6) (.seq (.reg [2, 3] (.c (.q 2 [] (.mv (.s []))) (.c (.q 3 [] (.mv (.c (.bool false)))) .nil))) .ret) .skip) k e w := rfl
def t_sLeadHead_2 : X := (.seq (.reg [2, 3] (.c (.q 7 [] (.lda 3 (.t 1))) (.c (.e (some 8) [] (.call false 199 [(.t 7)])) (.c (.q 2 [] (.mv (.t 8))) (.c (.q 3 [] (.mv (.c (.bool true)))) .nil))))) .ret)
theorem u_sLeadHead_2 (P : Program) (k : KT) (e : Env) (w : World) : vcK P t_sLeadHead_2 k e w = vcK P (.seq (.reg [2, 3] (.c (.q 7 [] (.lda 3 (.t 1))) (.c (.e (some 8) [] (.call false 199 [(.t 7)])) (.c (.q 2 [] (.mv (.t 8))) (.c (.q 3 [] (.mv (.c (.bool true)))) .nil))))) .ret) k e w := rfl
def t_sLeadHead_3 : X := (.seq (.seq (.reg [1, 6] (.c (.q 4 [] (.lda 3 (.t 1))) (.c (.e (some 5) [] (.call false 191 [(.t 4)])) (.c (.q 6 [] (.not (.t 5))) .nil)))) t_sLeadHead_1) t_sLeadHead_2)
theorem u_sLeadHead_3 (P : Program) (k : KT) (e : Env) (w : World) : vcK P t_sLeadHead_3 k e w = vcK P (.seq (.seq (.reg [1, 6] (.c (.q 4 [] (.lda 3 (.t 1))) (.c (.e (some 5) [] (.call false 191 [(.t 4)])) (.c (.q 6 [] (.not (.t 5))) .nil)))) t_sLeadHead_1) t_sLeadHead_2) k e w := rfl
def x_sLeadHead : X := (.seq (.reg [1] (.c (.e (some 1) [] (.box 58 (.t 0))) (.c (.q 2 [] (.mv (.s []))) (.c (.q 3 [] (.mv (.c (.bool false)))) .nil)))) t_sLeadHead_3)
theorem u_sLeadHead (P : Program) (k : KT) (e : Env) (w : World) : vcK P x_sLeadHead k e w = vcK P (.seq (.reg [1] (.c (.e (some 1) [] (.box 58 (.t 0))) (.c (.q 2 [] (.mv (.s []))) (.c (.q 3 [] (.mv (.c (.bool false)))) .nil)))) t_sLeadHead_3) k e w := rfl
def r_sLeadHead : List XO := [(.mv (.t 2)), (.mv (.t 3))]
theorem c_sLeadHead : convF Try.prog [145, 147, 148, 149, 158, 205, 206, 232, 234, 247, 248, 256, 261, 283, 284, 299, 300, 307] Try.f59 [([1], []), ([1, 6], []), ([2, 3], []), ([2, 3], [])] = some (x_sLeadHead, r_sLeadHead) := by kernel_rfl
def us_sLeadHead := And.intro @u_sLeadHead (And.intro @u_sLeadHead_1 (And.intro @u_sLeadHead_2 @u_sLeadHead_3))
def t_lFnCourse_1 : X := (.cond (.t 42) (.seq (.reg [4] (.c (.q 4 [] (.mv (.c (.bool true)))) .nil)) .ret) .skip)
theorem u_lFnCourse_1 (P : Program) (k : KT) (e : Env) (w : World) : vcK P t_lFnCourse_1 k e w = vcK P (.cond (.t 42) (.seq (.reg [4] (.c (.q 4 [] (.mv (.c (.bool true)))) .nil)) .ret) .skip) k e w := rfl
def t_lFnCourse_2 : X := (.cond (.t 136) (.seq (.reg [4] (.c (.q 4 [] (.mv (.c (.bool false)))) .nil)) .ret) .skip)
theorem u_lFnCourse_2 (P : Program) (k : KT) (e : Env) (w : World) : vcK P t_lFnCourse_2 k e w = vcK P (.cond (.t 136) (.seq (.reg [4] (.c (.q 4 [] (.mv (.c (.bool false)))) .nil)) .ret) .skip) k e w := rfl
def t_lFnCourse_3 : X := (.cond (.t 153) (.seq (.reg [4] (.c (.q 4 [] (.mv (.c (.bool false)))) .nil)) .ret) .skip)
theorem u_lFnCourse_3 (P : Program) (k : KT) (e : Env) (w : World) : vcK P t_lFnCourse_3 k e w = vcK P (.cond (.t 153) (.seq (.reg [4] (.c (.q 4 [] (.mv (.c (.bool false)))) .nil)) .ret) .skip) k e w := rfl
def t_lFnCourse_4 : X := (.seq (.reg [10, 11, 12, 13, 16, 17, 18, 153] (.c (.q 147 [] (.mv (.t 26))) (.c (.q 148 [] (.not (.t 147))) (.c (.q 149 [] (.mv (.t 148))) (.c (.q 150 [(149, false)] (.mv (.t 25))) (.c (.q 151 [(149, false)] (.mv (.t 5))) (.c (.q 152 [(149, false)] (.bin .neq (.t 150) (.t 151))) (.c (.q 153 [] (.pick (.t 149) (.c (.bool true)) (.t 152))) .nil)))))))) t_lFnCourse_3)
theorem u_lFnCourse_4 (P : Program) (k : KT) (e : Env) (w : World) : vcK P t_lFnCourse_4 k e w = vcK P (.seq (.reg [10, 11, 12, 13, 16, 17, 18, 153] (.c (.q 147 [] (.mv (.t 26))) (.c (.q 148 [] (.not (.t 147))) (.c (.q 149 [] (.mv (.t 148))) (.c (.q 150 [(149, false)] (.mv (.t 25))) (.c (.q 151 [(149, false)] (.mv (.t 5))) (.c (.q 152 [(149, false)] (.bin .neq (.t 150) (.t 151))) (.c (.q 153 [] (.pick (.t 149) (.c (.bool true)) (.t 152))) .nil)))))))) t_lFnCourse_3) k e w := rfl
def t_lFnCourse_5 : X := (.cond (.t 137) (.seq (.reg [5, 10, 11, 12, 13, 16, 17, 18, 25, 26] (.c (.q 139 [] (.mv (.t 5))) (.c (.q 140 [] (.idx (.t 139) (.c (.int .i64 0)))) (.c (.q 141 [] (.bin .sub (.t 140) (.c (.int .u8 48)))) (.c (.q 142 [] (.cvi .i64 (.t 141))) (.c (.q 143 [] (.mv (.t 6))) (.c (.e (some 144) [] (.call false 115 [(.t 142), (.t 143)])) (.c (.q 138 [] (.mv (.t 144))) (.c (.q 145 [] (.ext 0 (.t 138))) (.c (.q 146 [] (.ext 1 (.t 138))) (.c (.q 25 [] (.mv (.t 145))) (.c (.q 26 [] (.mv (.t 146))) .nil)))))))))))) t_lFnCourse_4) .skip)
theorem u_lFnCourse_5 (P : Program) (k : KT) (e : Env) (w : World) : vcK P t_lFnCourse_5 k e w = vcK P (.cond (.t 137) (.seq (.reg [5, 10, 11, 12, 13, 16, 17, 18, 25, 26] (.c (.q 139 [] (.mv (.t 5))) (.c (.q 140 [] (.idx (.t 139) (.c (.int .i64 0)))) (.c (.q 141 [] (.bin .sub (.t 140) (.c (.int .u8 48)))) (.c (.q 142 [] (.cvi .i64 (.t 141))) (.c (.q 143 [] (.mv (.t 6))) (.c (.e (some 144) [] (.call false 115 [(.t 142), (.t 143)])) (.c (.q 138 [] (.mv (.t 144))) (.c (.q 145 [] (.ext 0 (.t 138))) (.c (.q 146 [] (.ext 1 (.t 138))) (.c (.q 25 [] (.mv (.t 145))) (.c (.q 26 [] (.mv (.t 146))) .nil)))))))))))) t_lFnCourse_4) .skip) k e w := rfl
def t_lFnCourse_6 : X := (.cond (.t 174) (.seq (.reg [4] (.c (.q 4 [] (.mv (.c (.bool false)))) .nil)) .ret) .skip)
theorem u_lFnCourse_6 (P : Program) (k : KT) (e : Env) (w : World) : vcK P t_lFnCourse_6 k e w = vcK P (.cond (.t 174) (.seq (.reg [4] (.c (.q 4 [] (.mv (.c (.bool false)))) .nil)) .ret) .skip) k e w := rfl
def t_lFnCourse_7 : X := (.seq (.reg [16, 17, 18, 174] (.c (.q 160 [] (.mv (.t 28))) (.c (.q 161 [] (.not (.t 160))) (.c (.q 162 [] (.mv (.t 161))) (.c (.q 163 [(162, false)] (.mv (.t 27))) (.c (.q 164 [(162, false)] (.mv (.t 11))) (.c (.q 165 [(162, false)] (.bin .neq (.t 163) (.t 164))) (.c (.q 166 [] (.pick (.t 162) (.c (.bool true)) (.t 165))) (.c (.q 167 [] (.mv (.t 166))) (.c (.q 168 [(167, false)] (.mv (.t 12))) (.c (.q 169 [(167, false)] (.idx (.t 168) (.c (.int .i64 0)))) (.c (.q 170 [(167, false)] (.bin .sub (.t 169) (.c (.int .u8 48)))) (.c (.q 171 [(167, false)] (.cvi .i64 (.t 170))) (.c (.q 172 [(167, false)] (.mv (.t 10))) (.c (.q 173 [(167, false)] (.bin .neq (.t 171) (.t 172))) (.c (.q 174 [] (.pick (.t 167) (.c (.bool true)) (.t 173))) .nil)))))))))))))))) t_lFnCourse_6)
theorem u_lFnCourse_7 (P : Program) (k : KT) (e : Env) (w : World) : vcK P t_lFnCourse_7 k e w = vcK P (.seq (.reg [16, 17, 18, 174] (.c (.q 160 [] (.mv (.t 28))) (.c (.q 161 [] (.not (.t 160))) (.c (.q 162 [] (.mv (.t 161))) (.c (.q 163 [(162, false)] (.mv (.t 27))) (.c (.q 164 [(162, false)] (.mv (.t 11))) (.c (.q 165 [(162, false)] (.bin .neq (.t 163) (.t 164))) (.c (.q 166 [] (.pick (.t 162) (.c (.bool true)) (.t 165))) (.c (.q 167 [] (.mv (.t 166))) (.c (.q 168 [(167, false)] (.mv (.t 12))) (.c (.q 169 [(167, false)] (.idx (.t 168) (.c (.int .i64 0)))) (.c (.q 170 [(167, false)] (.bin .sub (.t 169) (.c (.int .u8 48)))) (.c (.q 171 [(167, false)] (.cvi .i64 (.t 170))) (.c (.q 172 [(167, false)] (.mv (.t 10))) (.c (.q 173 [(167, false)] (.bin .neq (.t 171) (.t 172))) (.c (.q 174 [] (.pick (.t 167) (.c (.bool true)) (.t 173))) .nil)))))))))))))))) t_lFnCourse_6) k e w := rfl
def t_lFnCourse_8 : X := (.cond (.t 154) (.seq (.reg [10, 11, 12, 16, 17, 18, 27, 28] (.c (.q 156 [] (.mv (.t 12))) (.c (.e (some 157) [] (.call false 112 [(.t 156)])) (.c (.q 155 [] (.mv (.t 157))) (.c (.q 158 [] (.ext 0 (.t 155))) (.c (.q 159 [] (.ext 1 (.t 155))) (.c (.q 27 [] (.mv (.t 158))) (.c (.q 28 [] (.mv (.t 159))) .nil)))))))) t_lFnCourse_7) .skip)
theorem u_lFnCourse_8 (P : Program) (k : KT) (e : Env) (w : World) : vcK P t_lFnCourse_8 k e w = vcK P (.cond (.t 154) (.seq (.reg [10, 11, 12, 16, 17, 18, 27, 28] (.c (.q 156 [] (.mv (.t 12))) (.c (.e (some 157) [] (.call false 112 [(.t 156)])) (.c (.q 155 [] (.mv (.t 157))) (.c (.q 158 [] (.ext 0 (.t 155))) (.c (.q 159 [] (.ext 1 (.t 155))) (.c (.q 27 [] (.mv (.t 158))) (.c (.q 28 [] (.mv (.t 159))) .nil)))))))) t_lFnCourse_7) .skip) k e w := rfl
def t_lFnCourse_9 : X := (.cond (.t 176) (.seq (.reg [4] (.c (.q 4 [] (.mv (.c (.bool true)))) .nil)) .ret) .skip)
theorem u_lFnCourse_9 (P : Program) (k : KT) (e : Env) (w : World) : vcK P t_lFnCourse_9 k e w = vcK P (.cond (.t 176) (.seq (.reg [4] (.c (.q 4 [] (.mv (.c (.bool true)))) .nil)) .ret) .skip) k e w := rfl
def t_lFnCourse_10 : X := (.seq (.drw [4] (.c (.q 198 [] (.mv (.t 30))) (.c (.q 199 [] (.mv (.t 198))) (.c (.q 200 [(199, true)] (.mv (.t 32))) (.c (.q 201 [] (.pick (.t 199) (.t 200) (.c (.bool false)))) (.c (.q 202 [] (.mv (.t 201))) (.c (.q 203 [(202, true)] (.mv (.t 34))) (.c (.q 204 [] (.pick (.t 202) (.t 203) (.c (.bool false)))) (.c (.q 205 [] (.mv (.t 204))) (.c (.q 206 [(205, true)] (.mv (.t 36))) (.c (.q 207 [] (.pick (.t 205) (.t 206) (.c (.bool false)))) (.c (.q 208 [] (.mv (.t 207))) (.c (.q 209 [(208, true)] (.mv (.t 17))) (.c (.q 210 [(208, true)] (.bin .gtr (.t 209) (.c (.int .i64 0)))) (.c (.q 211 [] (.pick (.t 208) (.t 210) (.c (.bool false)))) (.c (.q 212 [] (.mv (.t 211))) (.c (.q 213 [(212, true)] (.mv (.t 17))) (.c (.q 214 [(212, true)] (.mv (.t 35))) (.c (.q 215 [(212, true)] (.len (.t 214))) (.c (.q 216 [(212, true)] (.bin .lss (.t 213) (.t 215))) (.c (.q 217 [] (.pick (.t 212) (.t 216) (.c (.bool false)))) (.c (.q 218 [] (.mv (.t 217))) (.c (.q 219 [(218, true)] (.mv (.t 33))) (.c (.q 220 [(218, true)] (.mv (.t 35))) (.c (.q 221 [(218, true)] (.mv (.t 17))) (.c (.q 222 [(218, true)] (.sub (.t 220) (some (.t 221)) none)) (.c (.q 223 [(218, true)] (.mv (.t 35))) (.c (.q 224 [(218, true)] (.mv (.t 17))) (.c (.q 225 [(218, true)] (.sub (.t 223) none (some (.t 224)))) (.c (.q 226 [(218, true)] (.bin .add (.t 222) (.t 225))) (.c (.q 227 [(218, true)] (.bin .eql (.t 219) (.t 226))) (.c (.q 228 [] (.pick (.t 218) (.t 227) (.c (.bool false)))) (.c (.q 4 [] (.mv (.t 228))) .nil))))))))))))))))))))))))))))))))) .ret)
theorem u_lFnCourse_10 (P : Program) (k : KT) (e : Env) (w : World) : vcK P t_lFnCourse_10 k e w = vcK P (.seq (.drw [4] (.c (.q 198 [] (.mv (.t 30))) (.c (.q 199 [] (.mv (.t 198))) (.c (.q 200 [(199, true)] (.mv (.t 32))) (.c (.q 201 [] (.pick (.t 199) (.t 200) (.c (.bool false)))) (.c (.q 202 [] (.mv (.t 201))) (.c (.q 203 [(202, true)] (.mv (.t 34))) (.c (.q 204 [] (.pick (.t 202) (.t 203) (.c (.bool false)))) (.c (.q 205 [] (.mv (.t 204))) (.c (.q 206 [(205, true)] (.mv (.t 36))) (.c (.q 207 [] (.pick (.t 205) (.t 206) (.c (.bool false)))) (.c (.q 208 [] (.mv (.t 207))) (.c (.q 209 [(208, true)] (.mv (.t 17))) (.c (.q 210 [(208, true)] (.bin .gtr (.t 209) (.c (.int .i64 0)))) (.c (.q 211 [] (.pick (.t 208) (.t 210) (.c (.bool false)))) (.c (.q 212 [] (.mv (.t 211))) (.c (.q 213 [(212, true)] (.mv (.t 17))) (.c (.q 214 [(212, true)] (.mv (.t 35))) (.c (.q 215 [(212, true)] (.len (.t 214))) (.c (.q 216 [(212, true)] (.bin .lss (.t 213) (.t 215))) (.c (.q 217 [] (.pick (.t 212) (.t 216) (.c (.bool false)))) (.c (.q 218 [] (.mv (.t 217))) (.c (.q 219 [(218, true)] (.mv (.t 33))) (.c (.q 220 [(218, true)] (.mv (.t 35))) (.c (.q 221 [(218, true)] (.mv (.t 17))) (.c (.q 222 [(218, true)] (.sub (.t 220) (some (.t 221)) none)) (.c (.q 223 [(218, true)] (.mv (.t 35))) (.c (.q 224 [(218, true)] (.mv (.t 17))) (.c (.q 225 [(218, true)] (.sub (.t 223) none (some (.t 224)))) (.c (.q 226 [(218, true)] (.bin .add (.t 222) (.t 225))) (.c (.q 227 [(218, true)] (.bin .eql (.t 219) (.t 226))) (.c (.q 228 [] (.pick (.t 218) (.t 227) (.c (.bool false)))) (.c (.q 4 [] (.mv (.t 228))) .nil))))))))))))))))))))))))))))))))) .ret) k e w := rfl
def t_lFnCourse_11 : X := (.seq (.reg [17, 30, 32, 33, 34, 35, 36] (.c (.q 194 [] (.mv (.t 31))) (.c (.e (some 195) [] (.call false 112 [(.t 194)])) (.c (.q 193 [] (.mv (.t 195))) (.c (.q 196 [] (.ext 0 (.t 193))) (.c (.q 197 [] (.ext 1 (.t 193))) (.c (.q 35 [] (.mv (.t 196))) (.c (.q 36 [] (.mv (.t 197))) .nil)))))))) t_lFnCourse_10)
theorem u_lFnCourse_11 (P : Program) (k : KT) (e : Env) (w : World) : vcK P t_lFnCourse_11 k e w = vcK P (.seq (.reg [17, 30, 32, 33, 34, 35, 36] (.c (.q 194 [] (.mv (.t 31))) (.c (.e (some 195) [] (.call false 112 [(.t 194)])) (.c (.q 193 [] (.mv (.t 195))) (.c (.q 196 [] (.ext 0 (.t 193))) (.c (.q 197 [] (.ext 1 (.t 193))) (.c (.q 35 [] (.mv (.t 196))) (.c (.q 36 [] (.mv (.t 197))) .nil)))))))) t_lFnCourse_10) k e w := rfl
def t_lFnCourse_12 : X := (.seq (.reg [17, 30, 31, 32, 33, 34] (.c (.q 189 [] (.mv (.t 29))) (.c (.e (some 190) [] (.call false 112 [(.t 189)])) (.c (.q 188 [] (.mv (.t 190))) (.c (.q 191 [] (.ext 0 (.t 188))) (.c (.q 192 [] (.ext 1 (.t 188))) (.c (.q 33 [] (.mv (.t 191))) (.c (.q 34 [] (.mv (.t 192))) .nil)))))))) t_lFnCourse_11)
theorem u_lFnCourse_12 (P : Program) (k : KT) (e : Env) (w : World) : vcK P t_lFnCourse_12 k e w = vcK P (.seq (.reg [17, 30, 31, 32, 33, 34] (.c (.q 189 [] (.mv (.t 29))) (.c (.e (some 190) [] (.call false 112 [(.t 189)])) (.c (.q 188 [] (.mv (.t 190))) (.c (.q 191 [] (.ext 0 (.t 188))) (.c (.q 192 [] (.ext 1 (.t 188))) (.c (.q 33 [] (.mv (.t 191))) (.c (.q 34 [] (.mv (.t 192))) .nil)))))))) t_lFnCourse_11) k e w := rfl
def t_lFnCourse_13 : X := (.seq (.reg [17, 29, 30, 31, 32] (.c (.q 183 [] (.fa 1 (.t 16))) (.c (.q 184 [] (.ld (.t 183))) (.c (.e (some 185) [] (.call false 108 [(.t 184)])) (.c (.q 182 [] (.mv (.t 185))) (.c (.q 186 [] (.ext 0 (.t 182))) (.c (.q 187 [] (.ext 1 (.t 182))) (.c (.q 31 [] (.mv (.t 186))) (.c (.q 32 [] (.mv (.t 187))) .nil))))))))) t_lFnCourse_12)
theorem u_lFnCourse_13 (P : Program) (k : KT) (e : Env) (w : World) : vcK P t_lFnCourse_13 k e w = vcK P (.seq (.reg [17, 29, 30, 31, 32] (.c (.q 183 [] (.fa 1 (.t 16))) (.c (.q 184 [] (.ld (.t 183))) (.c (.e (some 185) [] (.call false 108 [(.t 184)])) (.c (.q 182 [] (.mv (.t 185))) (.c (.q 186 [] (.ext 0 (.t 182))) (.c (.q 187 [] (.ext 1 (.t 182))) (.c (.q 31 [] (.mv (.t 186))) (.c (.q 32 [] (.mv (.t 187))) .nil))))))))) t_lFnCourse_12) k e w := rfl
def t_lFnCourse_14 : X := (.seq (.reg [16, 17, 29, 30] (.c (.q 178 [] (.lda 3 (.t 16))) (.c (.e (some 179) [] (.call false 59 [(.t 178)])) (.c (.q 177 [] (.mv (.t 179))) (.c (.q 180 [] (.ext 0 (.t 177))) (.c (.q 181 [] (.ext 1 (.t 177))) (.c (.q 29 [] (.mv (.t 180))) (.c (.q 30 [] (.mv (.t 181))) .nil)))))))) t_lFnCourse_13)
theorem u_lFnCourse_14 (P : Program) (k : KT) (e : Env) (w : World) : vcK P t_lFnCourse_14 k e w = vcK P (.seq (.reg [16, 17, 29, 30] (.c (.q 178 [] (.lda 3 (.t 16))) (.c (.e (some 179) [] (.call false 59 [(.t 178)])) (.c (.q 177 [] (.mv (.t 179))) (.c (.q 180 [] (.ext 0 (.t 177))) (.c (.q 181 [] (.ext 1 (.t 177))) (.c (.q 29 [] (.mv (.t 180))) (.c (.q 30 [] (.mv (.t 181))) .nil)))))))) t_lFnCourse_13) k e w := rfl
def t_lFnCourse_15 : X := (.seq (.seq (.reg [16, 17, 176] (.c (.q 175 [] (.mv (.t 18))) (.c (.q 176 [] (.not (.t 175))) .nil))) t_lFnCourse_9) t_lFnCourse_14)
theorem u_lFnCourse_15 (P : Program) (k : KT) (e : Env) (w : World) : vcK P t_lFnCourse_15 k e w = vcK P (.seq (.seq (.reg [16, 17, 176] (.c (.q 175 [] (.mv (.t 18))) (.c (.q 176 [] (.not (.t 175))) .nil))) t_lFnCourse_9) t_lFnCourse_14) k e w := rfl
def t_lFnCourse_16 : X := (.seq (.seq (.reg [10, 11, 12, 16, 17, 18, 154] (.c (.q 154 [] (.mv (.t 13))) .nil)) t_lFnCourse_8) t_lFnCourse_15)
theorem u_lFnCourse_16 (P : Program) (k : KT) (e : Env) (w : World) : vcK P t_lFnCourse_16 k e w = vcK P (.seq (.seq (.reg [10, 11, 12, 16, 17, 18, 154] (.c (.q 154 [] (.mv (.t 13))) .nil)) t_lFnCourse_8) t_lFnCourse_15) k e w := rfl
def t_lFnCourse_17 : X := (.seq (.seq (.reg [5, 6, 10, 11, 12, 13, 16, 17, 18, 137] (.c (.q 137 [] (.mv (.t 7))) .nil)) t_lFnCourse_5) t_lFnCourse_16)
theorem u_lFnCourse_17 (P : Program) (k : KT) (e : Env) (w : World) : vcK P t_lFnCourse_17 k e w = vcK P (.seq (.seq (.reg [5, 6, 10, 11, 12, 13, 16, 17, 18, 137] (.c (.q 137 [] (.mv (.t 7))) .nil)) t_lFnCourse_5) t_lFnCourse_16) k e w := rfl
def t_lFnCourse_18 : X := (.seq (.seq (.reg [5, 6, 7, 10, 11, 12, 13, 16, 17, 18, 136] (.c (.q 94 [] (.mv (.t 7))) (.c (.q 95 [] (.mv (.t 9))) (.c (.q 96 [] (.beq true (.t 94) (.t 95))) (.c (.q 97 [] (.mv (.t 96))) (.c (.q 98 [(97, false)] (.mv (.t 6))) (.c (.q 99 [(97, false)] (.mv (.t 8))) (.c (.q 100 [(97, false)] (.bin .neq (.t 98) (.t 99))) (.c (.q 101 [] (.pick (.t 97) (.c (.bool true)) (.t 100))) (.c (.q 102 [] (.mv (.t 101))) (.c (.q 103 [(102, false)] (.mv (.t 13))) (.c (.q 104 [(102, false)] (.mv (.t 15))) (.c (.q 105 [(102, false)] (.beq true (.t 103) (.t 104))) (.c (.q 106 [] (.pick (.t 102) (.c (.bool true)) (.t 105))) (.c (.q 107 [] (.mv (.t 106))) (.c (.q 108 [(107, false)] (.mv (.t 12))) (.c (.q 109 [(107, false)] (.mv (.t 14))) (.c (.q 110 [(107, false)] (.bin .neq (.t 108) (.t 109))) (.c (.q 111 [] (.pick (.t 107) (.c (.bool true)) (.t 110))) (.c (.q 112 [] (.mv (.t 111))) (.c (.q 113 [(112, false)] (.mv (.t 18))) (.c (.q 114 [(112, false)] (.mv (.t 20))) (.c (.q 115 [(112, false)] (.beq true (.t 113) (.t 114))) (.c (.q 116 [] (.pick (.t 112) (.c (.bool true)) (.t 115))) (.c (.q 117 [] (.mv (.t 116))) (.c (.q 118 [(117, false)] (.mv (.t 17))) (.c (.q 119 [(117, false)] (.mv (.t 19))) (.c (.q 120 [(117, false)] (.bin .neq (.t 118) (.t 119))) (.c (.q 121 [] (.pick (.t 117) (.c (.bool true)) (.t 120))) (.c (.q 122 [] (.mv (.t 121))) (.c (.q 123 [(122, false)] (.mv (.t 22))) (.c (.q 124 [(122, false)] (.mv (.t 24))) (.c (.q 125 [(122, false)] (.beq true (.t 123) (.t 124))) (.c (.q 126 [] (.pick (.t 122) (.c (.bool true)) (.t 125))) (.c (.q 127 [] (.mv (.t 126))) (.c (.q 128 [(127, false)] (.mv (.t 21))) (.c (.q 129 [(127, false)] (.mv (.t 23))) (.c (.q 130 [(127, false)] (.beq true (.t 128) (.t 129))) (.c (.q 131 [] (.pick (.t 127) (.c (.bool true)) (.t 130))) (.c (.q 132 [] (.mv (.t 131))) (.c (.q 133 [(132, false)] (.mv (.t 18))) (.c (.q 134 [(132, false)] (.mv (.t 21))) (.c (.q 135 [(132, false)] (.beq true (.t 133) (.t 134))) (.c (.q 136 [] (.pick (.t 132) (.c (.bool true)) (.t 135))) .nil)))))))))))))))))))))))))))))))))))))))))))) t_lFnCourse_2) t_lFnCourse_17)
theorem u_lFnCourse_18 (P : Program) (k : KT) (e : Env) (w : World) : vcK P t_lFnCourse_18 k e w = vcK P (.seq (.seq (.reg [5, 6, 7, 10, 11, 12, 13, 16, 17, 18, 136] (.c (.q 94 [] (.mv (.t 7))) (.c (.q 95 [] (.mv (.t 9))) (.c (.q 96 [] (.beq true (.t 94) (.t 95))) (.c (.q 97 [] (.mv (.t 96))) (.c (.q 98 [(97, false)] (.mv (.t 6))) (.c (.q 99 [(97, false)] (.mv (.t 8))) (.c (.q 100 [(97, false)] (.bin .neq (.t 98) (.t 99))) (.c (.q 101 [] (.pick (.t 97) (.c (.bool true)) (.t 100))) (.c (.q 102 [] (.mv (.t 101))) (.c (.q 103 [(102, false)] (.mv (.t 13))) (.c (.q 104 [(102, false)] (.mv (.t 15))) (.c (.q 105 [(102, false)] (.beq true (.t 103) (.t 104))) (.c (.q 106 [] (.pick (.t 102) (.c (.bool true)) (.t 105))) (.c (.q 107 [] (.mv (.t 106))) (.c (.q 108 [(107, false)] (.mv (.t 12))) (.c (.q 109 [(107, false)] (.mv (.t 14))) (.c (.q 110 [(107, false)] (.bin .neq (.t 108) (.t 109))) (.c (.q 111 [] (.pick (.t 107) (.c (.bool true)) (.t 110))) (.c (.q 112 [] (.mv (.t 111))) (.c (.q 113 [(112, false)] (.mv (.t 18))) (.c (.q 114 [(112, false)] (.mv (.t 20))) (.c (.q 115 [(112, false)] (.beq true (.t 113) (.t 114))) (.c (.q 116 [] (.pick (.t 112) (.c (.bool true)) (.t 115))) (.c (.q 117 [] (.mv (.t 116))) (.c (.q 118 [(117, false)] (.mv (.t 17))) (.c (.q 119 [(117, false)] (.mv (.t 19))) (.c (.q 120 [(117, false)] (.bin .neq (.t 118) (.t 119))) (.c (.q 121 [] (.pick (.t 117) (.c (.bool true)) (.t 120))) (.c (.q 122 [] (.mv (.t 121))) (.c (.q 123 [(122, false)] (.mv (.t 22))) (.c (.q 124 [(122, false)] (.mv (.t 24))) (.c (.q 125 [(122, false)] (.beq true (.t 123) (.t 124))) (.c (.q 126 [] (.pick (.t 122) (.c (.bool true)) (.t 125))) (.c (.q 127 [] (.mv (.t 126))) (.c (.q 128 [(127, false)] (.mv (.t 21))) (.c (.q 129 [(127, false)] (.mv (.t 23))) (.c (.q 130 [(127, false)] (.beq true (.t 128) (.t 129))) (.c (.q 131 [] (.pick (.t 127) (.c (.bool true)) (.t 130))) (.c (.q 132 [] (.mv (.t 131))) (.c (.q 133 [(132, false)] (.mv (.t 18))) (.c (.q 134 [(132, false)] (.mv (.t 21))) (.c (.q 135 [(132, false)] (.beq true (.t 133) (.t 134))) (.c (.q 136 [] (.pick (.t 132) (.c (.bool true)) (.t 135))) .nil)))))))))))))))))))))))))))))))))))))))))))) t_lFnCourse_2) t_lFnCourse_17) k e w := rfl
def t_lFnCourse_19 : X := (.seq (.reg [5, 6, 7, 8, 9, 10, 11, 12, 13, 14, 15, 16, 17, 18, 19, 20, 21, 22, 23, 24] (.c (.q 90 [] (.lda 3 (.t 16))) (.c (.e (some 91) [] (.call false 121 [(.t 90)])) (.c (.q 89 [] (.mv (.t 91))) (.c (.q 92 [] (.ext 0 (.t 89))) (.c (.q 93 [] (.ext 1 (.t 89))) (.c (.q 23 [] (.mv (.t 92))) (.c (.q 24 [] (.mv (.t 93))) .nil)))))))) t_lFnCourse_18)
theorem u_lFnCourse_19 (P : Program) (k : KT) (e : Env) (w : World) : vcK P t_lFnCourse_19 k e w = vcK P (.seq (.reg [5, 6, 7, 8, 9, 10, 11, 12, 13, 14, 15, 16, 17, 18, 19, 20, 21, 22, 23, 24] (.c (.q 90 [] (.lda 3 (.t 16))) (.c (.e (some 91) [] (.call false 121 [(.t 90)])) (.c (.q 89 [] (.mv (.t 91))) (.c (.q 92 [] (.ext 0 (.t 89))) (.c (.q 93 [] (.ext 1 (.t 89))) (.c (.q 23 [] (.mv (.t 92))) (.c (.q 24 [] (.mv (.t 93))) .nil)))))))) t_lFnCourse_18) k e w := rfl
def t_lFnCourse_20 : X := (.seq (.reg [5, 6, 7, 8, 9, 10, 11, 12, 13, 14, 15, 16, 17, 18, 19, 20, 21, 22] (.c (.q 85 [] (.lda 3 (.t 16))) (.c (.e (some 86) [] (.call false 120 [(.t 85)])) (.c (.q 84 [] (.mv (.t 86))) (.c (.q 87 [] (.ext 0 (.t 84))) (.c (.q 88 [] (.ext 1 (.t 84))) (.c (.q 21 [] (.mv (.t 87))) (.c (.q 22 [] (.mv (.t 88))) .nil)))))))) t_lFnCourse_19)
theorem u_lFnCourse_20 (P : Program) (k : KT) (e : Env) (w : World) : vcK P t_lFnCourse_20 k e w = vcK P (.seq (.reg [5, 6, 7, 8, 9, 10, 11, 12, 13, 14, 15, 16, 17, 18, 19, 20, 21, 22] (.c (.q 85 [] (.lda 3 (.t 16))) (.c (.e (some 86) [] (.call false 120 [(.t 85)])) (.c (.q 84 [] (.mv (.t 86))) (.c (.q 87 [] (.ext 0 (.t 84))) (.c (.q 88 [] (.ext 1 (.t 84))) (.c (.q 21 [] (.mv (.t 87))) (.c (.q 22 [] (.mv (.t 88))) .nil)))))))) t_lFnCourse_19) k e w := rfl
def t_lFnCourse_21 : X := (.seq (.reg [5, 6, 7, 8, 9, 10, 11, 12, 13, 14, 15, 16, 17, 18, 19, 20] (.c (.q 80 [] (.lda 3 (.t 16))) (.c (.e (some 81) [] (.call false 119 [(.t 80)])) (.c (.q 79 [] (.mv (.t 81))) (.c (.q 82 [] (.ext 0 (.t 79))) (.c (.q 83 [] (.ext 1 (.t 79))) (.c (.q 19 [] (.mv (.t 82))) (.c (.q 20 [] (.mv (.t 83))) .nil)))))))) t_lFnCourse_20)
theorem u_lFnCourse_21 (P : Program) (k : KT) (e : Env) (w : World) : vcK P t_lFnCourse_21 k e w = vcK P (.seq (.reg [5, 6, 7, 8, 9, 10, 11, 12, 13, 14, 15, 16, 17, 18, 19, 20] (.c (.q 80 [] (.lda 3 (.t 16))) (.c (.e (some 81) [] (.call false 119 [(.t 80)])) (.c (.q 79 [] (.mv (.t 81))) (.c (.q 82 [] (.ext 0 (.t 79))) (.c (.q 83 [] (.ext 1 (.t 79))) (.c (.q 19 [] (.mv (.t 82))) (.c (.q 20 [] (.mv (.t 83))) .nil)))))))) t_lFnCourse_20) k e w := rfl
def t_lFnCourse_22 : X := (.seq (.reg [5, 6, 7, 8, 9, 10, 11, 12, 13, 14, 15, 16, 17, 18] (.c (.q 75 [] (.lda 3 (.t 16))) (.c (.e (some 76) [] (.call false 118 [(.t 75)])) (.c (.q 74 [] (.mv (.t 76))) (.c (.q 77 [] (.ext 0 (.t 74))) (.c (.q 78 [] (.ext 1 (.t 74))) (.c (.q 17 [] (.mv (.t 77))) (.c (.q 18 [] (.mv (.t 78))) .nil)))))))) t_lFnCourse_21)
theorem u_lFnCourse_22 (P : Program) (k : KT) (e : Env) (w : World) : vcK P t_lFnCourse_22 k e w = vcK P (.seq (.reg [5, 6, 7, 8, 9, 10, 11, 12, 13, 14, 15, 16, 17, 18] (.c (.q 75 [] (.lda 3 (.t 16))) (.c (.e (some 76) [] (.call false 118 [(.t 75)])) (.c (.q 74 [] (.mv (.t 76))) (.c (.q 77 [] (.ext 0 (.t 74))) (.c (.q 78 [] (.ext 1 (.t 74))) (.c (.q 17 [] (.mv (.t 77))) (.c (.q 18 [] (.mv (.t 78))) .nil)))))))) t_lFnCourse_21) k e w := rfl
def t_lFnCourse_23 : X := (.seq (.reg [5, 6, 7, 8, 9, 10, 11, 12, 13, 14, 15, 16] (.c (.q 72 [] (.mv (.t 1))) (.c (.e (some 73) [] (.call false 117 [(.t 72)])) (.c (.e (some 16) [] (.al 58 [(S []), (.int .i64 0), (.slice none 0 0)])) (.c (.e none [] (.st 3 (.t 16) (.t 73))) .nil))))) t_lFnCourse_22)
theorem u_lFnCourse_23 (P : Program) (k : KT) (e : Env) (w : World) : vcK P t_lFnCourse_23 k e w = vcK P (.seq (.reg [5, 6, 7, 8, 9, 10, 11, 12, 13, 14, 15, 16] (.c (.q 72 [] (.mv (.t 1))) (.c (.e (some 73) [] (.call false 117 [(.t 72)])) (.c (.e (some 16) [] (.al 58 [(S []), (.int .i64 0), (.slice none 0 0)])) (.c (.e none [] (.st 3 (.t 16) (.t 73))) .nil))))) t_lFnCourse_22) k e w := rfl
def t_lFnCourse_24 : X := (.seq (.reg [1, 5, 6, 7, 8, 9, 10, 11, 12, 13, 14, 15] (.c (.q 67 [] (.mv (.t 10))) (.c (.q 68 [] (.mv (.t 11))) (.c (.e (some 69) [] (.call false 116 [(.t 67), (.t 68)])) (.c (.q 66 [] (.mv (.t 69))) (.c (.q 70 [] (.ext 0 (.t 66))) (.c (.q 71 [] (.ext 1 (.t 66))) (.c (.q 14 [] (.mv (.t 70))) (.c (.q 15 [] (.mv (.t 71))) .nil))))))))) t_lFnCourse_23)
theorem u_lFnCourse_24 (P : Program) (k : KT) (e : Env) (w : World) : vcK P t_lFnCourse_24 k e w = vcK P (.seq (.reg [1, 5, 6, 7, 8, 9, 10, 11, 12, 13, 14, 15] (.c (.q 67 [] (.mv (.t 10))) (.c (.q 68 [] (.mv (.t 11))) (.c (.e (some 69) [] (.call false 116 [(.t 67), (.t 68)])) (.c (.q 66 [] (.mv (.t 69))) (.c (.q 70 [] (.ext 0 (.t 66))) (.c (.q 71 [] (.ext 1 (.t 66))) (.c (.q 14 [] (.mv (.t 70))) (.c (.q 15 [] (.mv (.t 71))) .nil))))))))) t_lFnCourse_23) k e w := rfl
def t_lFnCourse_25 : X := (.seq (.reg [1, 5, 6, 7, 8, 9, 10, 11, 12, 13] (.c (.q 61 [] (.mv (.t 10))) (.c (.q 62 [] (.mv (.t 11))) (.c (.e (some 63) [] (.call false 115 [(.t 61), (.t 62)])) (.c (.q 60 [] (.mv (.t 63))) (.c (.q 64 [] (.ext 0 (.t 60))) (.c (.q 65 [] (.ext 1 (.t 60))) (.c (.q 12 [] (.mv (.t 64))) (.c (.q 13 [] (.mv (.t 65))) .nil))))))))) t_lFnCourse_24)
theorem u_lFnCourse_25 (P : Program) (k : KT) (e : Env) (w : World) : vcK P t_lFnCourse_25 k e w = vcK P (.seq (.reg [1, 5, 6, 7, 8, 9, 10, 11, 12, 13] (.c (.q 61 [] (.mv (.t 10))) (.c (.q 62 [] (.mv (.t 11))) (.c (.e (some 63) [] (.call false 115 [(.t 61), (.t 62)])) (.c (.q 60 [] (.mv (.t 63))) (.c (.q 64 [] (.ext 0 (.t 60))) (.c (.q 65 [] (.ext 1 (.t 60))) (.c (.q 12 [] (.mv (.t 64))) (.c (.q 13 [] (.mv (.t 65))) .nil))))))))) t_lFnCourse_24) k e w := rfl
def t_lFnCourse_26 : X := (.seq (.reg [1, 5, 6, 7, 8, 9, 10, 11] (.c (.q 56 [] (.mv (.t 1))) (.c (.e (some 57) [] (.call false 114 [(.t 56)])) (.c (.q 55 [] (.mv (.t 57))) (.c (.q 58 [] (.ext 0 (.t 55))) (.c (.q 59 [] (.ext 1 (.t 55))) (.c (.q 10 [] (.mv (.t 58))) (.c (.q 11 [] (.mv (.t 59))) .nil)))))))) t_lFnCourse_25)
theorem u_lFnCourse_26 (P : Program) (k : KT) (e : Env) (w : World) : vcK P t_lFnCourse_26 k e w = vcK P (.seq (.reg [1, 5, 6, 7, 8, 9, 10, 11] (.c (.q 56 [] (.mv (.t 1))) (.c (.e (some 57) [] (.call false 114 [(.t 56)])) (.c (.q 55 [] (.mv (.t 57))) (.c (.q 58 [] (.ext 0 (.t 55))) (.c (.q 59 [] (.ext 1 (.t 55))) (.c (.q 10 [] (.mv (.t 58))) (.c (.q 11 [] (.mv (.t 59))) .nil)))))))) t_lFnCourse_25) k e w := rfl
def t_lFnCourse_27 : X := (.seq (.reg [1, 5, 6, 7, 8, 9] (.c (.q 51 [] (.mv (.t 5))) (.c (.e (some 52) [] (.call false 113 [(.t 51)])) (.c (.q 50 [] (.mv (.t 52))) (.c (.q 53 [] (.ext 0 (.t 50))) (.c (.q 54 [] (.ext 1 (.t 50))) (.c (.q 8 [] (.mv (.t 53))) (.c (.q 9 [] (.mv (.t 54))) .nil)))))))) t_lFnCourse_26)
theorem u_lFnCourse_27 (P : Program) (k : KT) (e : Env) (w : World) : vcK P t_lFnCourse_27 k e w = vcK P (.seq (.reg [1, 5, 6, 7, 8, 9] (.c (.q 51 [] (.mv (.t 5))) (.c (.e (some 52) [] (.call false 113 [(.t 51)])) (.c (.q 50 [] (.mv (.t 52))) (.c (.q 53 [] (.ext 0 (.t 50))) (.c (.q 54 [] (.ext 1 (.t 50))) (.c (.q 8 [] (.mv (.t 53))) (.c (.q 9 [] (.mv (.t 54))) .nil)))))))) t_lFnCourse_26) k e w := rfl
def t_lFnCourse_28 : X := (.seq (.reg [1, 5, 6, 7] (.c (.q 46 [] (.mv (.t 5))) (.c (.e (some 47) [] (.call false 112 [(.t 46)])) (.c (.q 45 [] (.mv (.t 47))) (.c (.q 48 [] (.ext 0 (.t 45))) (.c (.q 49 [] (.ext 1 (.t 45))) (.c (.q 6 [] (.mv (.t 48))) (.c (.q 7 [] (.mv (.t 49))) .nil)))))))) t_lFnCourse_27)
theorem u_lFnCourse_28 (P : Program) (k : KT) (e : Env) (w : World) : vcK P t_lFnCourse_28 k e w = vcK P (.seq (.reg [1, 5, 6, 7] (.c (.q 46 [] (.mv (.t 5))) (.c (.e (some 47) [] (.call false 112 [(.t 46)])) (.c (.q 45 [] (.mv (.t 47))) (.c (.q 48 [] (.ext 0 (.t 45))) (.c (.q 49 [] (.ext 1 (.t 45))) (.c (.q 6 [] (.mv (.t 48))) (.c (.q 7 [] (.mv (.t 49))) .nil)))))))) t_lFnCourse_27) k e w := rfl
def t_lFnCourse_29 : X := (.seq (.reg [1, 5] (.c (.q 43 [] (.mv (.t 0))) (.c (.e (some 44) [] (.call false 111 [(.t 43)])) (.c (.q 5 [] (.mv (.t 44))) .nil)))) t_lFnCourse_28)
theorem u_lFnCourse_29 (P : Program) (k : KT) (e : Env) (w : World) : vcK P t_lFnCourse_29 k e w = vcK P (.seq (.reg [1, 5] (.c (.q 43 [] (.mv (.t 0))) (.c (.e (some 44) [] (.call false 111 [(.t 43)])) (.c (.q 5 [] (.mv (.t 44))) .nil)))) t_lFnCourse_28) k e w := rfl
def t_lFnCourse_30 : X := (.seq (.seq (.reg [0, 1, 42] (.c (.q 37 [] (.mv (.t 0))) (.c (.q 38 [] (.lens (.t 37))) (.c (.q 39 [] (.mv (.t 1))) (.c (.q 40 [] (.lens (.t 39))) (.c (.q 41 [] (.bin .add (.t 38) (.t 40))) (.c (.q 42 [] (.bin .gtr (.t 41) (.c (.int .i64 1048576)))) .nil))))))) t_lFnCourse_1) t_lFnCourse_29)
theorem u_lFnCourse_30 (P : Program) (k : KT) (e : Env) (w : World) : vcK P t_lFnCourse_30 k e w = vcK P (.seq (.seq (.reg [0, 1, 42] (.c (.q 37 [] (.mv (.t 0))) (.c (.q 38 [] (.lens (.t 37))) (.c (.q 39 [] (.mv (.t 1))) (.c (.q 40 [] (.lens (.t 39))) (.c (.q 41 [] (.bin .add (.t 38) (.t 40))) (.c (.q 42 [] (.bin .gtr (.t 41) (.c (.int .i64 1048576)))) .nil))))))) t_lFnCourse_1) t_lFnCourse_29) k e w := rfl
def x_lFnCourse : X := (.seq (.reg [0, 1] (.c (.q 4 [] (.mv (.c (.bool false)))) .nil)) t_lFnCourse_30)
theorem u_lFnCourse (P : Program) (k : KT) (e : Env) (w : World) : vcK P x_lFnCourse k e w = vcK P (.seq (.reg [0, 1] (.c (.q 4 [] (.mv (.c (.bool false)))) .nil)) t_lFnCourse_30) k e w := rfl
def r_lFnCourse : List XO := [(.mv (.t 4))]
theorem c_lFnCourse : convF Try.prog [145, 147, 148, 149, 158, 205, 206, 232, 234, 247, 248, 256, 261, 283, 284, 299, 300, 307] Try.f12 [([0, 1], []), ([0, 1, 42], []), ([4], []), ([1, 5], []), ([1, 5, 6, 7], []), ([1, 5, 6, 7, 8, 9], []), ([1, 5, 6, 7, 8, 9, 10, 11], []), ([1, 5, 6, 7, 8, 9, 10, 11, 12, 13], []), ([1, 5, 6, 7, 8, 9, 10, 11, 12, 13, 14, 15], []), ([5, 6, 7, 8, 9, 10, 11, 12, 13, 14, 15, 16], []), ([5, 6, 7, 8, 9, 10, 11, 12, 13, 14, 15, 16, 17, 18], []), ([5, 6, 7, 8, 9, 10, 11, 12, 13, 14, 15, 16, 17, 18, 19, 20], []), ([5, 6, 7, 8, 9, 10, 11, 12, 13, 14, 15, 16, 17, 18, 19, 20, 21, 22], []), ([5, 6, 7, 8, 9, 10, 11, 12, 13, 14, 15, 16, 17, 18, 19, 20, 21, 22, 23, 24], []), ([5, 6, 7, 10, 11, 12, 13, 16, 17, 18, 136], []), ([4], []), ([5, 6, 10, 11, 12, 13, 16, 17, 18, 137], []), ([5, 10, 11, 12, 13, 16, 17, 18, 25, 26], []), ([10, 11, 12, 13, 16, 17, 18, 153], []), ([4], []), ([10, 11, 12, 16, 17, 18, 154], []), ([10, 11, 12, 16, 17, 18, 27, 28], []), ([16, 17, 18, 174], []), ([4], []), ([16, 17, 176], []), ([4], []), ([16, 17, 29, 30], []), ([17, 29, 30, 31, 32], []), ([17, 30, 31, 32, 33, 34], []), ([17, 30, 32, 33, 34, 35, 36], []), ([4], [])] = some (x_lFnCourse, r_lFnCourse) := by kernel_rfl
def us_lFnCourse := And.intro @u_lFnCourse (And.intro @u_lFnCourse_1 (And.intro @u_lFnCourse_2 (And.intro @u_lFnCourse_3 (And.intro @u_lFnCourse_4 (And.intro @u_lFnCourse_5 (And.intro @u_lFnCourse_6 (And.intro @u_lFnCourse_7 (And.intro @u_lFnCourse_8 (And.intro @u_lFnCourse_9 (And.intro @u_lFnCourse_10 (And.intro @u_lFnCourse_11 (And.intro @u_lFnCourse_12 (And.intro @u_lFnCourse_13 (And.intro @u_lFnCourse_14 (And.intro @u_lFnCourse_15 (And.intro @u_lFnCourse_16 (And.intro @u_lFnCourse_17 (And.intro @u_lFnCourse_18 (And.intro @u_lFnCourse_19 (And.intro @u_lFnCourse_20 (And.intro @u_lFnCourse_21 (And.intro @u_lFnCourse_22 (And.intro @u_lFnCourse_23 (And.intro @u_lFnCourse_24 (And.intro @u_lFnCourse_25 (And.intro @u_lFnCourse_26 (And.intro @u_lFnCourse_27 (And.intro @u_lFnCourse_28 (And.intro @u_lFnCourse_29 @u_lFnCourse_30)))))))))))))))))))))))))))))

theorem cou_ne : ∀ n < 9, ∀ k < (coursingL n).length, ∀ j < k, (coursingL n).getD j 0 ≠ (coursingL n).getD k 0 := by decide +kernel
theorem cou_all_at : ∀ n < 9, ∀ q < n, 1 ≤ q → ∃ j < n - 1, (coursingL n).getD j 0 = ((q + 1 : Nat) : Int) := by decide +kernel
theorem rocM_at (n f : Nat) (l : List UInt8) (hn : 1 ≤ n ∧ n < 9) (hl : l.length + 1 = n) : ∀ k, k ≤ l.length → (rocM n f l k).getD 0 0 = UInt8.ofNat (48 + f) ∧ ∀ j, j < k → (rocM n f l k).getD ((coursingL n).getD j 0 - 1).toNat 0 = l.getD j 0 := by
  intro k
  induction k with
  | zero =>
    intro _
    refine ⟨?_, fun j hj => absurd hj (Nat.not_lt_zero j)⟩
    rw [rocM, getD_set, if_pos ⟨rfl, by simp; omega⟩]
  | succ k ih =>
    intro hk
    obtain ⟨h0, hj⟩ := ih (by omega)
    have hcl := cou_len n hn.2
    have hin := cou_in n hn.2 k (by omega)
    refine ⟨?_, fun j hjk => ?_⟩
    · rw [rocM, getD_set, if_neg (by omega)]; exact h0
    · rw [rocM, getD_set, rocM_len]
      rcases Nat.lt_succ_iff_lt_or_eq.1 hjk with h | rfl
      · have hne := cou_ne n hn.2 k (by omega) j h
        have hin2 := cou_in n hn.2 j (by omega)
        rw [if_neg (by omega)]
        exact hj j h
      · rw [if_pos ⟨rfl, by omega⟩]
theorem course_roc (n f : Nat) (l : List UInt8) (hn : 1 ≤ n ∧ n < 9) (hl : l.length + 1 = n) : courseL (rocM n f l l.length) = l := by
  have hcl := cou_len n hn.2
  refine ext_getD (d := 0) (by rw [courseL, List.length_map, rocM_len]; omega) fun i hi => ?_
  rw [courseL, List.length_map, rocM_len] at hi
  rw [courseL, rocM_len, getD_map _ 0 _ _ _ hi]
  have := (rocM_at n f l hn hl l.length (Nat.le_refl _)).2 i (by omega)
  rw [← this]
  congr 1
  have hin := cou_in n hn.2 i hi
  omega
theorem roc_course {r : List UInt8} (hr : IsRow r) (h4 : 4 ≤ r.length) : rocM r.length (((r.getD 0 0).toNat : Int) - 48).toNat (courseL r) (courseL r).length = r := by
  have h8 := hr.1
  have hcl := cou_len r.length (by omega)
  have hl : (courseL r).length + 1 = r.length := by rw [courseL, List.length_map, hcl]; omega
  have hat := rocM_at r.length (((r.getD 0 0).toNat : Int) - 48).toNat (courseL r) (by omega) hl _ (Nat.le_refl _)
  refine ext_getD (d := 0) (by rw [rocM_len]) fun q hq => ?_
  rw [rocM_len] at hq
  by_cases h0 : q = 0
  · subst h0
    rw [hat.1]
    have hlow := hr.low (i := 0) (by omega)
    rw [show 48 + (((r.getD 0 0).toNat : Int) - 48).toNat = (r.getD 0 0).toNat by omega]
    exact (u8_eq rfl).symm
  · obtain ⟨j, hj, he⟩ := cou_all_at r.length (by omega) q hq (by omega)
    have := hat.2 j (by omega)
    rw [he, show (((q + 1 : Nat) : Int) - 1).toNat = q by omega] at this
    rw [this, courseL, getD_map _ 0 _ _ _ (by omega), he]
    rfl
theorem turnGo_is (st : Nat) (h : List UInt8) : ∀ k n, turnGo st h k n ≠ 0 → TurnsBy st h (turnGo st h k n) ∧ n ≤ turnGo st h k n ∧ turnGo st h k n < n + k := by
  intro k
  induction k with
  | zero => intro n hn; exact absurd rfl hn
  | succ k ih =>
    intro n hn
    rw [turnGo] at hn ⊢
    by_cases ht : TurnsBy st h n
    · rw [if_pos ht]; exact ⟨ht, Nat.le_refl _, by omega⟩
    · rw [if_neg ht] at hn ⊢
      have := ih (n + 1) hn
      exact ⟨this.1, by omega, by omega⟩
def headV (nm : List UInt8) (st : Int) (cs : List (List UInt8)) : Value := if IsMethod nm st cs then .tuple ⟨[S (underL (roundsL st.toNat) cs), .bool true]⟩ else .tuple ⟨[S [], .bool false]⟩
theorem sLeadHead_ok (nm : List UInt8) (st : Int) (v : Value) (cs : List (List UInt8)) (hnm : nm.length ≤ 1048576) (hs : ∀ c ∈ cs, c.length ≤ 1048576) (hl : cs.length ≤ 1000000000) (w : World) (h : Sq fS 1 w v cs) : Fn 59 [mV nm st v] w (fun r _ => r = headV nm st cs) := by
  (refine callsV_of mix Try.func59 c_sLeadHead ?_; simp only [↓vsd, vsn, gW, qd, qv, ev, pick, argE, List.map_cons, List.map_nil, Option.map_some, Option.map_none, zipE, List.cons_append, List.nil_append, ne_eq, eq_self, forall_const, implies_true, if_true, if_false, reduceIte, List.cons.injEq, reduceCtorEq, Nat.reduceEqDiff, List.length_nil, List.length_cons, Nat.reduceAdd, Nat.reduceLT, List.set_cons_zero, List.set_cons_succ, ↓us_sLeadHead, r_sLeadHead])
  refine m_al ?_
  rintro b w1 hb hblk hx1 hs1
  have h1 : Blk w1 b (fM nm st v) 58 := hblk
  have hq1 := h.ext hx1
  simp only [↓vsd, vsn, gW, qd, qv, ev, pick, argE, List.map_cons, List.map_nil, Option.map_some, Option.map_none, zipE, List.cons_append, List.nil_append, ne_eq, eq_self, forall_const, implies_true, if_true, if_false, reduceIte, List.cons.injEq, reduceCtorEq, Nat.reduceEqDiff, List.length_nil, List.length_cons, Nat.reduceAdd, Nat.reduceLT, List.set_cons_zero, List.set_cons_succ, ↓us_sLeadHead, r_sLeadHead, h1.facts, fMg]
  refine m_call (sl4Good_ok nm st v cs hnm hs hl _ hq1) ?_
  rintro _ w2 hx2 rfl
  have h2 := h1.ext hx2
  have hq2 := hq1.ext hx2
  by_cases hm : IsMethod nm st cs
  · simp only [↓vsd, vsn, gW, qd, qv, ev, pick, argE, List.map_cons, List.map_nil, Option.map_some, Option.map_none, zipE, List.cons_append, List.nil_append, ne_eq, eq_self, forall_const, implies_true, if_true, if_false, reduceIte, List.cons.injEq, reduceCtorEq, Nat.reduceEqDiff, List.length_nil, List.length_cons, Nat.reduceAdd, Nat.reduceLT, List.set_cons_zero, List.set_cons_succ, ↓us_sLeadHead, r_sLeadHead, hm, h2.facts, fMg]
    refine m_call (sl4Head_ok nm st v cs hm _ hq2) ?_
    rintro _ w3 hx3 rfl
    simp only [↓vsd, vsn, gW, qd, qv, ev, pick, argE, List.map_cons, List.map_nil, Option.map_some, Option.map_none, zipE, List.cons_append, List.nil_append, ne_eq, eq_self, forall_const, implies_true, if_true, if_false, reduceIte, List.cons.injEq, reduceCtorEq, Nat.reduceEqDiff, List.length_nil, List.length_cons, Nat.reduceAdd, Nat.reduceLT, List.set_cons_zero, List.set_cons_succ, ↓us_sLeadHead, r_sLeadHead]
    exact ⟨(hx1.trans hx2).trans hx3, by rw [headV, if_pos hm]⟩
  · simp only [↓vsd, vsn, gW, qd, qv, ev, pick, argE, List.map_cons, List.map_nil, Option.map_some, Option.map_none, zipE, List.cons_append, List.nil_append, ne_eq, eq_self, forall_const, implies_true, if_true, if_false, reduceIte, List.cons.injEq, reduceCtorEq, Nat.reduceEqDiff, List.length_nil, List.length_cons, Nat.reduceAdd, Nat.reduceLT, List.set_cons_zero, List.set_cons_succ, ↓us_sLeadHead, r_sLeadHead, hm]
    exact ⟨hx1.trans hx2, by rw [headV, if_neg hm]⟩
theorem courseV_two (a : List UInt8) : ∃ x b, courseV a = .tuple ⟨[S x, .bool b]⟩ := by unfold courseV; split <;> exact ⟨_, _, rfl⟩
theorem regV_two (nm : List UInt8) (st : Int) (cs : List (List UInt8)) : ∃ x b : Bool, regV nm st cs = .tuple ⟨[.bool x, .bool b]⟩ ∧ (∃ t : Int, turnV nm st cs = .tuple ⟨[.int .i64 t, .bool x]⟩) := by
  unfold regV turnV
  by_cases hL : IsLarge nm st cs
  · by_cases h0 : turnN st.toNat (underL (roundsL st.toNat) cs) = 0
    · refine ⟨false, true, by rw [if_pos hL, decide_eq_false (by omega)], 0, by rw [if_neg (fun h => h.2 h0)]⟩
    · refine ⟨true, true, by rw [if_pos hL, decide_eq_true (by omega)], _, by rw [if_pos ⟨hL, h0⟩]⟩
  · exact ⟨false, false, by rw [if_neg hL], 0, by rw [if_neg (fun h => hL h.1)]⟩
theorem head_num {r : List UInt8} (h : 49 ≤ (r.getD 0 0).toNat) : True := trivial
set_option maxHeartbeats 2000000 in
theorem lFnCourse_ok (v u : Value) (code more : List UInt8) (hcl : code.length ≤ 140737488355328) (hml : more.length ≤ 140737488355328) (w : World) (h : Sq fU 1 w v code) (h' : Sq fU 1 w u more) : Fn 12 [v, u] w (fun r _ => r = .bool true) := by
  (refine callsV_of mix Try.func12 c_lFnCourse ?_; simp only [↓vsd, vsn, gW, qd, qv, ev, pick, argE, List.map_cons, List.map_nil, Option.map_some, Option.map_none, zipE, List.cons_append, List.nil_append, ne_eq, eq_self, forall_const, implies_true, if_true, if_false, reduceIte, List.cons.injEq, reduceCtorEq, Nat.reduceEqDiff, List.length_nil, List.length_cons, Nat.reduceAdd, Nat.reduceLT, List.set_cons_zero, List.set_cons_succ, ↓us_lFnCourse, r_lFnCourse])
  simp only [↓vsd, vsn, gW, qd, qv, ev, pick, argE, List.map_cons, List.map_nil, Option.map_some, Option.map_none, zipE, List.cons_append, List.nil_append, ne_eq, eq_self, forall_const, implies_true, if_true, if_false, reduceIte, List.cons.injEq, reduceCtorEq, Nat.reduceEqDiff, List.length_nil, List.length_cons, Nat.reduceAdd, Nat.reduceLT, List.set_cons_zero, List.set_cons_succ, ↓us_lFnCourse, r_lFnCourse, h.facts, h'.facts]
  refine ⟨inR_i64 (by omega), fun _ => Ext.refl _, fun hsm => ?_⟩
  have hlen : code.length ≤ 1048576 ∧ more.length ≤ 1048576 := by omega
  refine m_call (sDrawCourseOf_ok v code hlen.1 _ h) ?_
  rintro _ w1 hx1 ⟨r, rfl, hr10⟩
  simp only [↓vsd, vsn, gW, qd, qv, ev, pick, argE, List.map_cons, List.map_nil, Option.map_some, Option.map_none, zipE, List.cons_append, List.nil_append, ne_eq, eq_self, forall_const, implies_true, if_true, if_false, reduceIte, List.cons.injEq, reduceCtorEq, Nat.reduceEqDiff, List.length_nil, List.length_cons, Nat.reduceAdd, Nat.reduceLT, List.set_cons_zero, List.set_cons_succ, ↓us_lFnCourse, r_lFnCourse]
  refine m_call (iCourseOf_ok r _) ?_
  rintro r2 w2 hx2 hr2
  by_cases hok : IsRow r ∧ 4 ≤ r.length
  · have ec : courseV r = .tuple ⟨[S (courseL r), .bool true]⟩ := by rw [courseV, if_pos hok]
    rw [ec] at hr2
    subst hr2
    simp only [↓vsd, vsn, gW, qd, qv, ev, pick, argE, List.map_cons, List.map_nil, Option.map_some, Option.map_none, zipE, List.cons_append, List.nil_append, ne_eq, eq_self, forall_const, implies_true, if_true, if_false, reduceIte, List.cons.injEq, reduceCtorEq, Nat.reduceEqDiff, List.length_nil, List.length_cons, Nat.reduceAdd, Nat.reduceLT, List.set_cons_zero, List.set_cons_succ, ↓us_lFnCourse, r_lFnCourse]
    refine m_call (sCourseOf_ok r _) ?_
    rintro r3 w3 hx3 hr3
    rw [ec] at hr3
    subst hr3
    simp only [↓vsd, vsn, gW, qd, qv, ev, pick, argE, List.map_cons, List.map_nil, Option.map_some, Option.map_none, zipE, List.cons_append, List.nil_append, ne_eq, eq_self, forall_const, implies_true, if_true, if_false, reduceIte, List.cons.injEq, reduceCtorEq, Nat.reduceEqDiff, List.length_nil, List.length_cons, Nat.reduceAdd, Nat.reduceLT, List.set_cons_zero, List.set_cons_succ, ↓us_lFnCourse, r_lFnCourse]
    have hxA := hx1.trans (hx2.trans hx3)
    refine m_call (sDrawRowOfCourse_ok u more hlen.2 _ (h'.ext hxA)) ?_
    rintro _ wa hxa ⟨f, s, rfl, hs100⟩
    simp only [↓vsd, vsn, gW, qd, qv, ev, pick, argE, List.map_cons, List.map_nil, Option.map_some, Option.map_none, zipE, List.cons_append, List.nil_append, ne_eq, eq_self, forall_const, implies_true, if_true, if_false, reduceIte, List.cons.injEq, reduceCtorEq, Nat.reduceEqDiff, List.length_nil, List.length_cons, Nat.reduceAdd, Nat.reduceLT, List.set_cons_zero, List.set_cons_succ, ↓us_lFnCourse, r_lFnCourse]
    refine m_call (iRowOfCourse_ok f s (by omega) _) ?_
    rintro rb wb hxb hrb
    by_cases hR : (4 ≤ s.length + 1 ∧ s.length + 1 ≤ 8) ∧ (1 ≤ f ∧ f ≤ s.length + 1) ∧ IsRow (rocM (s.length + 1) f.toNat s s.length)
    · have er : rocV f s = .tuple ⟨[S (rocM (s.length + 1) f.toNat s s.length), .bool true]⟩ := by rw [rocV, if_pos hR]
      rw [er] at hrb
      subst hrb
      simp only [↓vsd, vsn, gW, qd, qv, ev, pick, argE, List.map_cons, List.map_nil, Option.map_some, Option.map_none, zipE, List.cons_append, List.nil_append, ne_eq, eq_self, forall_const, implies_true, if_true, if_false, reduceIte, List.cons.injEq, reduceCtorEq, Nat.reduceEqDiff, List.length_nil, List.length_cons, Nat.reduceAdd, Nat.reduceLT, List.set_cons_zero, List.set_cons_succ, ↓us_lFnCourse, r_lFnCourse]
      refine m_call (sRowOfCourse_ok f s (by omega) _) ?_
      rintro rc wc hxc hrc
      rw [er] at hrc
      subst hrc
      have hxB := hxA.trans (hxa.trans (hxb.trans hxc))
      simp only [↓vsd, vsn, gW, qd, qv, ev, pick, argE, List.map_cons, List.map_nil, Option.map_some, Option.map_none, zipE, List.cons_append, List.nil_append, ne_eq, eq_self, forall_const, implies_true, if_true, if_false, reduceIte, List.cons.injEq, reduceCtorEq, Nat.reduceEqDiff, List.length_nil, List.length_cons, Nat.reduceAdd, Nat.reduceLT, List.set_cons_zero, List.set_cons_succ, ↓us_lFnCourse, r_lFnCourse]
      refine m_call (sDrawTurnOf_ok u more hlen.2 _ (h'.ext hxB)) ?_
      rintro _ wd hxd ⟨nm, st, x, cs, rfl, hoM, hnm11, hst29, hcs60, hc8⟩
      simp only [↓vsd, vsn, gW, qd, qv, ev, pick, argE, List.map_cons, List.map_nil, Option.map_some, Option.map_none, zipE, List.cons_append, List.nil_append, ne_eq, eq_self, forall_const, implies_true, if_true, if_false, reduceIte, List.cons.injEq, reduceCtorEq, Nat.reduceEqDiff, List.length_nil, List.length_cons, Nat.reduceAdd, Nat.reduceLT, List.set_cons_zero, List.set_cons_succ, ↓us_lFnCourse, r_lFnCourse]
      refine m_al ?_
      rintro bm we hbm hblke hxe hse
      simp only [↓vsd, vsn, gW, qd, qv, ev, pick, argE, List.map_cons, List.map_nil, Option.map_some, Option.map_none, zipE, List.cons_append, List.nil_append, ne_eq, eq_self, forall_const, implies_true, if_true, if_false, reduceIte, List.cons.injEq, reduceCtorEq, Nat.reduceEqDiff, List.length_nil, List.length_cons, Nat.reduceAdd, Nat.reduceLT, List.set_cons_zero, List.set_cons_succ, ↓us_lFnCourse, r_lFnCourse]
      refine m_st hblke rfl (Nat.le_refl 3) (fM_one nm st _ hoM.sq.one') ?_
      rintro wf hblkf huf
      have hMf : Blk wf bm (fM nm st x) 58 := hblkf
      have hoF := (hoM.ext hxe).upd huf (hoM.away (by omega))
      have hxF : Ext w wf := huf.below (hxB.trans (hxd.trans hxe)) (by have := (hxB.trans hxd).size; omega)
      have hc8' : ∀ c ∈ cs, c.length ≤ 1048576 := fun c hc => by have := hc8 c hc; omega
      simp only [↓vsd, vsn, gW, qd, qv, ev, pick, argE, List.map_cons, List.map_nil, Option.map_some, Option.map_none, zipE, List.cons_append, List.nil_append, ne_eq, eq_self, forall_const, implies_true, if_true, if_false, reduceIte, List.cons.injEq, reduceCtorEq, Nat.reduceEqDiff, List.length_nil, List.length_cons, Nat.reduceAdd, Nat.reduceLT, List.set_cons_zero, List.set_cons_succ, ↓us_lFnCourse, r_lFnCourse, hMf.facts, fMg]
      refine m_call (iTurnOf_ok nm st x cs (by omega) hc8' (by omega) _ hoF.sq) ?_
      rintro rg wg hxg hrg
      have hMg := hMf.ext hxg
      have hoG := hoF.ext hxg
      by_cases hT : IsLarge nm st cs ∧ turnN st.toNat (underL (roundsL st.toNat) cs) ≠ 0
      · have eT : turnV nm st cs = .tuple ⟨[.int .i64 (turnN st.toNat (underL (roundsL st.toNat) cs) : Nat), .bool true]⟩ := by rw [turnV, if_pos hT]
        have eR : regV nm st cs = .tuple ⟨[.bool true, .bool true]⟩ := by rw [regV, if_pos hT.1, decide_eq_true (by omega)]
        rw [eT] at hrg
        subst hrg
        simp only [↓vsd, vsn, gW, qd, qv, ev, pick, argE, List.map_cons, List.map_nil, Option.map_some, Option.map_none, zipE, List.cons_append, List.nil_append, ne_eq, eq_self, forall_const, implies_true, if_true, if_false, reduceIte, List.cons.injEq, reduceCtorEq, Nat.reduceEqDiff, List.length_nil, List.length_cons, Nat.reduceAdd, Nat.reduceLT, List.set_cons_zero, List.set_cons_succ, ↓us_lFnCourse, r_lFnCourse, hMg.facts, fMg]
        refine m_call (sTurnOf_ok nm st x cs (by omega) hc8' (by omega) _ hoG.sq) ?_
        rintro rh wh hxh hrh
        rw [eT] at hrh
        subst hrh
        have hMh := hMg.ext hxh
        have hoH := hoG.ext hxh
        simp only [↓vsd, vsn, gW, qd, qv, ev, pick, argE, List.map_cons, List.map_nil, Option.map_some, Option.map_none, zipE, List.cons_append, List.nil_append, ne_eq, eq_self, forall_const, implies_true, if_true, if_false, reduceIte, List.cons.injEq, reduceCtorEq, Nat.reduceEqDiff, List.length_nil, List.length_cons, Nat.reduceAdd, Nat.reduceLT, List.set_cons_zero, List.set_cons_succ, ↓us_lFnCourse, r_lFnCourse, hMh.facts, fMg]
        refine m_call (iIsRegular_ok nm st x cs (by omega) hc8' (by omega) _ hoH.sq) ?_
        rintro ri wi hxi hri
        rw [eR] at hri
        subst hri
        have hMi := hMh.ext hxi
        have hoI := hoH.ext hxi
        simp only [↓vsd, vsn, gW, qd, qv, ev, pick, argE, List.map_cons, List.map_nil, Option.map_some, Option.map_none, zipE, List.cons_append, List.nil_append, ne_eq, eq_self, forall_const, implies_true, if_true, if_false, reduceIte, List.cons.injEq, reduceCtorEq, Nat.reduceEqDiff, List.length_nil, List.length_cons, Nat.reduceAdd, Nat.reduceLT, List.set_cons_zero, List.set_cons_succ, ↓us_lFnCourse, r_lFnCourse, hMi.facts, fMg]
        refine m_call (sIsRegular_ok nm st x cs (by omega) hc8' (by omega) _ hoI.sq) ?_
        rintro rj wj hxj hrj
        rw [eR] at hrj
        subst hrj
        have hMj := hMi.ext hxj
        have hoJ := hoI.ext hxj
        have hxC := hxF.trans (hxg.trans (hxh.trans (hxi.trans hxj)))
        simp only [↓vsd, vsn, gW, qd, qv, ev, pick, argE, List.map_cons, List.map_nil, Option.map_some, Option.map_none, zipE, List.cons_append, List.nil_append, ne_eq, eq_self, forall_const, implies_true, if_true, if_false, reduceIte, List.cons.injEq, reduceCtorEq, Nat.reduceEqDiff, List.length_nil, List.length_cons, Nat.reduceAdd, Nat.reduceLT, List.set_cons_zero, List.set_cons_succ, ↓us_lFnCourse, r_lFnCourse]
        have h8r := hok.1.1
        have hlow := hok.1.low (i := 0) (by omega)
        have hb0 := (r.getD 0 0).toNat_lt
        have hhigh := hok.1.high (i := 0) (by omega)
        refine ⟨by omega, inR_u8 (by omega), inR_i64 (by omega), m_call (iRowOfCourse_ok _ (courseL r) (by rw [courseL, List.length_map, cou_len _ (by omega)]; omega) _) ?_⟩
        rintro rk wk hxk hrk
        have hcl1 : (courseL r).length + 1 = r.length := by rw [courseL, List.length_map, cou_len _ (by omega)]; omega
        have hrc := roc_course hok.1 hok.2
        have ek : rocV (((r.getD 0 0).toNat : Int) - 48) (courseL r) = .tuple ⟨[S r, .bool true]⟩ := by
          rw [rocV, hcl1, hrc, if_pos ⟨by omega, by omega, hok.1⟩]
        rw [ek] at hrk
        subst hrk
        have hxC := hxC.trans hxk
        have hMj := hMj.ext hxk
        have hoJ := hoJ.ext hxk
        simp only [↓vsd, vsn, gW, qd, qv, ev, pick, argE, List.map_cons, List.map_nil, Option.map_some, Option.map_none, zipE, List.cons_append, List.nil_append, ne_eq, eq_self, forall_const, implies_true, if_true, if_false, reduceIte, List.cons.injEq, reduceCtorEq, Nat.reduceEqDiff, List.length_nil, List.length_cons, Nat.reduceAdd, Nat.reduceLT, List.set_cons_zero, List.set_cons_succ, ↓us_lFnCourse, r_lFnCourse]
        have hrl := rocM_len (s.length + 1) f.toNat s s.length
        have ecr : courseV (rocM (s.length + 1) f.toNat s s.length) = .tuple ⟨[S s, .bool true]⟩ := by
          rw [courseV, if_pos ⟨hR.2.2, by omega⟩, course_roc (s.length + 1) f.toNat s (by omega) rfl]
        have ex0 := (rocM_at (s.length + 1) f.toNat s (by omega) rfl s.length (Nat.le_refl _)).1
        have ex1 : ((UInt8.ofNat (48 + f.toNat)).toNat : Int) - 48 = f := by rw [u8_nat (by omega)]; omega
        have hu8 : (UInt8.ofNat (48 + f.toNat)).toNat = 48 + f.toNat := u8_nat (by omega)
        refine m_call (iCourseOf_ok _ _) ?_
        rintro rm wm hxm hrm
        rw [ecr] at hrm
        subst hrm
        have hxC := hxC.trans hxm
        have hMj := hMj.ext hxm
        have hoJ := hoJ.ext hxm
        simp only [↓vsd, vsn, gW, qd, qv, ev, pick, argE, List.map_cons, List.map_nil, Option.map_some, Option.map_none, zipE, List.cons_append, List.nil_append, ne_eq, eq_self, forall_const, implies_true, if_true, if_false, reduceIte, List.cons.injEq, reduceCtorEq, Nat.reduceEqDiff, List.length_nil, List.length_cons, Nat.reduceAdd, Nat.reduceLT, List.set_cons_zero, List.set_cons_succ, ↓us_lFnCourse, r_lFnCourse, hrl, ex0, ex1]
        refine ⟨by omega, inR_u8 (by omega), inR_i64 (by omega), ?_⟩
        have hL := hT.1
        have h8s := hL.1.2.1
        have h4s := hL.2
        have hts := turnGo_is st.toNat (underL (roundsL st.toNat) cs) (st.toNat - 2) 1 hT.2
        have hrow := underL_row cs (roundsL_row st.toNat (by omega))
        have hul := underL_len cs (roundsL st.toNat)
        rw [roundsL_len] at hul
        have ehd : headV nm st cs = .tuple ⟨[S (underL (roundsL st.toNat) cs), .bool true]⟩ := by rw [headV, if_pos hL.1]
        have ecd : courseV (underL (roundsL st.toNat) cs) = .tuple ⟨[S (courseL (underL (roundsL st.toNat) cs)), .bool true]⟩ := by rw [courseV, if_pos ⟨hrow, by omega⟩]
        have erd : roundsV st = .tuple ⟨[S (roundsL st.toNat), .bool true]⟩ := by rw [roundsV, if_pos (by omega)]
        have ecr2 : courseV (roundsL st.toNat) = .tuple ⟨[S (courseL (roundsL st.toNat)), .bool true]⟩ := by rw [courseV, if_pos ⟨roundsL_row _ (by omega), by rw [roundsL_len]; omega⟩]
        have hcw : (courseL (roundsL st.toNat)).length = st.toNat - 1 := by rw [courseL, List.length_map, roundsL_len, cou_len _ (by omega)]
        have htt := hts.1.2
        have htn : turnGo st.toNat (underL (roundsL st.toNat) cs) (st.toNat - 2) 1 = turnN st.toNat (underL (roundsL st.toNat) cs) := rfl
        rw [htn] at hts htt
        generalize turnN st.toNat (underL (roundsL st.toNat) cs) = tn at *
        generalize underL (roundsL st.toNat) cs = hd at *
        simp only [↓vsd, vsn, gW, qd, qv, ev, pick, argE, List.map_cons, List.map_nil, Option.map_some, Option.map_none, zipE, List.cons_append, List.nil_append, ne_eq, eq_self, forall_const, implies_true, if_true, if_false, reduceIte, List.cons.injEq, reduceCtorEq, Nat.reduceEqDiff, List.length_nil, List.length_cons, Nat.reduceAdd, Nat.reduceLT, List.set_cons_zero, List.set_cons_succ, ↓us_lFnCourse, r_lFnCourse, hMj.facts, fMg]
        refine m_call (sLeadHead_ok nm st x cs (by omega) hc8' (by omega) _ hoJ.sq) ?_
        rintro rn wn hxn hrn
        rw [ehd] at hrn
        subst hrn
        have hMn := hMj.ext hxn
        simp only [↓vsd, vsn, gW, qd, qv, ev, pick, argE, List.map_cons, List.map_nil, Option.map_some, Option.map_none, zipE, List.cons_append, List.nil_append, ne_eq, eq_self, forall_const, implies_true, if_true, if_false, reduceIte, List.cons.injEq, reduceCtorEq, Nat.reduceEqDiff, List.length_nil, List.length_cons, Nat.reduceAdd, Nat.reduceLT, List.set_cons_zero, List.set_cons_succ, ↓us_lFnCourse, r_lFnCourse, hMn.facts, fMg]
        refine m_call (sRoundsOf_ok st _) ?_
        rintro ro wo hxo hro
        rw [erd] at hro
        subst hro
        simp only [↓vsd, vsn, gW, qd, qv, ev, pick, argE, List.map_cons, List.map_nil, Option.map_some, Option.map_none, zipE, List.cons_append, List.nil_append, ne_eq, eq_self, forall_const, implies_true, if_true, if_false, reduceIte, List.cons.injEq, reduceCtorEq, Nat.reduceEqDiff, List.length_nil, List.length_cons, Nat.reduceAdd, Nat.reduceLT, List.set_cons_zero, List.set_cons_succ, ↓us_lFnCourse, r_lFnCourse]
        refine m_call (iCourseOf_ok hd _) ?_
        rintro rp wp hxp hrp
        rw [ecd] at hrp
        subst hrp
        simp only [↓vsd, vsn, gW, qd, qv, ev, pick, argE, List.map_cons, List.map_nil, Option.map_some, Option.map_none, zipE, List.cons_append, List.nil_append, ne_eq, eq_self, forall_const, implies_true, if_true, if_false, reduceIte, List.cons.injEq, reduceCtorEq, Nat.reduceEqDiff, List.length_nil, List.length_cons, Nat.reduceAdd, Nat.reduceLT, List.set_cons_zero, List.set_cons_succ, ↓us_lFnCourse, r_lFnCourse]
        refine m_call (iCourseOf_ok (roundsL st.toNat) _) ?_
        rintro rq wq hxq hrq
        rw [ecr2] at hrq
        subst hrq
        have c1 : 0 < (tn : Int) := by omega
        have c2 : (tn : Int) < (courseL (roundsL st.toNat)).length := by omega
        simp only [↓vsd, vsn, gW, qd, qv, ev, pick, argE, List.map_cons, List.map_nil, Option.map_some, Option.map_none, zipE, List.cons_append, List.nil_append, ne_eq, eq_self, forall_const, implies_true, if_true, if_false, reduceIte, List.cons.injEq, reduceCtorEq, Nat.reduceEqDiff, List.length_nil, List.length_cons, Nat.reduceAdd, Nat.reduceLT, List.set_cons_zero, List.set_cons_succ, ↓us_lFnCourse, r_lFnCourse, c1, c2]
        have hdl : ((courseL (roundsL st.toNat)).drop tn).length = st.toNat - 1 - tn := by rw [List.length_drop, hcw]
        have htl : ((courseL (roundsL st.toNat)).take tn).length ≤ tn := by rw [List.length_take]; omega
        have htn9 : (tn : Int) ≤ (courseL (roundsL st.toNat)).length := by omega
        exact ⟨⟨by omega, htn9⟩, ⟨by omega, htn9⟩, by omega, hxC.trans (hxn.trans (hxo.trans (hxp.trans hxq))), htt⟩
      · have eT : turnV nm st cs = .tuple ⟨[.int .i64 0, .bool false]⟩ := by rw [turnV, if_neg hT]
        obtain ⟨gb, eR⟩ : ∃ gb, regV nm st cs = .tuple ⟨[.bool false, .bool gb]⟩ := by
          unfold regV
          split
          · rename_i hL
            exact ⟨true, by rw [decide_eq_false (by have : turnN st.toNat (underL (roundsL st.toNat) cs) = 0 := Classical.byContradiction fun h => hT ⟨hL, h⟩
                                                    omega)]⟩
          · exact ⟨false, rfl⟩
        rw [eT] at hrg
        subst hrg
        simp only [↓vsd, vsn, gW, qd, qv, ev, pick, argE, List.map_cons, List.map_nil, Option.map_some, Option.map_none, zipE, List.cons_append, List.nil_append, ne_eq, eq_self, forall_const, implies_true, if_true, if_false, reduceIte, List.cons.injEq, reduceCtorEq, Nat.reduceEqDiff, List.length_nil, List.length_cons, Nat.reduceAdd, Nat.reduceLT, List.set_cons_zero, List.set_cons_succ, ↓us_lFnCourse, r_lFnCourse, hMg.facts, fMg]
        refine m_call (sTurnOf_ok nm st x cs (by omega) hc8' (by omega) _ hoG.sq) ?_
        rintro rh wh hxh hrh
        rw [eT] at hrh
        subst hrh
        have hMh := hMg.ext hxh
        have hoH := hoG.ext hxh
        simp only [↓vsd, vsn, gW, qd, qv, ev, pick, argE, List.map_cons, List.map_nil, Option.map_some, Option.map_none, zipE, List.cons_append, List.nil_append, ne_eq, eq_self, forall_const, implies_true, if_true, if_false, reduceIte, List.cons.injEq, reduceCtorEq, Nat.reduceEqDiff, List.length_nil, List.length_cons, Nat.reduceAdd, Nat.reduceLT, List.set_cons_zero, List.set_cons_succ, ↓us_lFnCourse, r_lFnCourse, hMh.facts, fMg]
        refine m_call (iIsRegular_ok nm st x cs (by omega) hc8' (by omega) _ hoH.sq) ?_
        rintro ri wi hxi hri
        rw [eR] at hri
        subst hri
        have hMi := hMh.ext hxi
        have hoI := hoH.ext hxi
        simp only [↓vsd, vsn, gW, qd, qv, ev, pick, argE, List.map_cons, List.map_nil, Option.map_some, Option.map_none, zipE, List.cons_append, List.nil_append, ne_eq, eq_self, forall_const, implies_true, if_true, if_false, reduceIte, List.cons.injEq, reduceCtorEq, Nat.reduceEqDiff, List.length_nil, List.length_cons, Nat.reduceAdd, Nat.reduceLT, List.set_cons_zero, List.set_cons_succ, ↓us_lFnCourse, r_lFnCourse, hMi.facts, fMg]
        refine m_call (sIsRegular_ok nm st x cs (by omega) hc8' (by omega) _ hoI.sq) ?_
        rintro rj wj hxj hrj
        rw [eR] at hrj
        subst hrj
        have hMj := hMi.ext hxj
        have hoJ := hoI.ext hxj
        have hxC := hxF.trans (hxg.trans (hxh.trans (hxi.trans hxj)))
        simp only [↓vsd, vsn, gW, qd, qv, ev, pick, argE, List.map_cons, List.map_nil, Option.map_some, Option.map_none, zipE, List.cons_append, List.nil_append, ne_eq, eq_self, forall_const, implies_true, if_true, if_false, reduceIte, List.cons.injEq, reduceCtorEq, Nat.reduceEqDiff, List.length_nil, List.length_cons, Nat.reduceAdd, Nat.reduceLT, List.set_cons_zero, List.set_cons_succ, ↓us_lFnCourse, r_lFnCourse]
        have h8r := hok.1.1
        have hlow := hok.1.low (i := 0) (by omega)
        have hb0 := (r.getD 0 0).toNat_lt
        have hhigh := hok.1.high (i := 0) (by omega)
        refine ⟨by omega, inR_u8 (by omega), inR_i64 (by omega), m_call (iRowOfCourse_ok _ (courseL r) (by rw [courseL, List.length_map, cou_len _ (by omega)]; omega) _) ?_⟩
        rintro rk wk hxk hrk
        have hcl1 : (courseL r).length + 1 = r.length := by rw [courseL, List.length_map, cou_len _ (by omega)]; omega
        have hrc := roc_course hok.1 hok.2
        have ek : rocV (((r.getD 0 0).toNat : Int) - 48) (courseL r) = .tuple ⟨[S r, .bool true]⟩ := by
          rw [rocV, hcl1, hrc, if_pos ⟨by omega, by omega, hok.1⟩]
        rw [ek] at hrk
        subst hrk
        have hxC := hxC.trans hxk
        have hMj := hMj.ext hxk
        have hoJ := hoJ.ext hxk
        simp only [↓vsd, vsn, gW, qd, qv, ev, pick, argE, List.map_cons, List.map_nil, Option.map_some, Option.map_none, zipE, List.cons_append, List.nil_append, ne_eq, eq_self, forall_const, implies_true, if_true, if_false, reduceIte, List.cons.injEq, reduceCtorEq, Nat.reduceEqDiff, List.length_nil, List.length_cons, Nat.reduceAdd, Nat.reduceLT, List.set_cons_zero, List.set_cons_succ, ↓us_lFnCourse, r_lFnCourse]
        have hrl := rocM_len (s.length + 1) f.toNat s s.length
        have ecr : courseV (rocM (s.length + 1) f.toNat s s.length) = .tuple ⟨[S s, .bool true]⟩ := by
          rw [courseV, if_pos ⟨hR.2.2, by omega⟩, course_roc (s.length + 1) f.toNat s (by omega) rfl]
        have ex0 := (rocM_at (s.length + 1) f.toNat s (by omega) rfl s.length (Nat.le_refl _)).1
        have ex1 : ((UInt8.ofNat (48 + f.toNat)).toNat : Int) - 48 = f := by rw [u8_nat (by omega)]; omega
        have hu8 : (UInt8.ofNat (48 + f.toNat)).toNat = 48 + f.toNat := u8_nat (by omega)
        refine m_call (iCourseOf_ok _ _) ?_
        rintro rm wm hxm hrm
        rw [ecr] at hrm
        subst hrm
        have hxC := hxC.trans hxm
        have hMj := hMj.ext hxm
        have hoJ := hoJ.ext hxm
        simp only [↓vsd, vsn, gW, qd, qv, ev, pick, argE, List.map_cons, List.map_nil, Option.map_some, Option.map_none, zipE, List.cons_append, List.nil_append, ne_eq, eq_self, forall_const, implies_true, if_true, if_false, reduceIte, List.cons.injEq, reduceCtorEq, Nat.reduceEqDiff, List.length_nil, List.length_cons, Nat.reduceAdd, Nat.reduceLT, List.set_cons_zero, List.set_cons_succ, ↓us_lFnCourse, r_lFnCourse, hrl, ex0, ex1]
        refine ⟨by omega, inR_u8 (by omega), inR_i64 (by omega), ?_⟩
        exact hxC
    · have er : rocV f s = .tuple ⟨[S [], .bool false]⟩ := by rw [rocV, if_neg hR]
      rw [er] at hrb
      subst hrb
      simp only [↓vsd, vsn, gW, qd, qv, ev, pick, argE, List.map_cons, List.map_nil, Option.map_some, Option.map_none, zipE, List.cons_append, List.nil_append, ne_eq, eq_self, forall_const, implies_true, if_true, if_false, reduceIte, List.cons.injEq, reduceCtorEq, Nat.reduceEqDiff, List.length_nil, List.length_cons, Nat.reduceAdd, Nat.reduceLT, List.set_cons_zero, List.set_cons_succ, ↓us_lFnCourse, r_lFnCourse]
      refine m_call (sRowOfCourse_ok f s (by omega) _) ?_
      rintro rc wc hxc hrc
      rw [er] at hrc
      subst hrc
      have hxB := hxA.trans (hxa.trans (hxb.trans hxc))
      simp only [↓vsd, vsn, gW, qd, qv, ev, pick, argE, List.map_cons, List.map_nil, Option.map_some, Option.map_none, zipE, List.cons_append, List.nil_append, ne_eq, eq_self, forall_const, implies_true, if_true, if_false, reduceIte, List.cons.injEq, reduceCtorEq, Nat.reduceEqDiff, List.length_nil, List.length_cons, Nat.reduceAdd, Nat.reduceLT, List.set_cons_zero, List.set_cons_succ, ↓us_lFnCourse, r_lFnCourse]
      refine m_call (sDrawTurnOf_ok u more hlen.2 _ (h'.ext hxB)) ?_
      rintro _ wd hxd ⟨nm, st, x, cs, rfl, hoM, hnm11, hst29, hcs60, hc8⟩
      simp only [↓vsd, vsn, gW, qd, qv, ev, pick, argE, List.map_cons, List.map_nil, Option.map_some, Option.map_none, zipE, List.cons_append, List.nil_append, ne_eq, eq_self, forall_const, implies_true, if_true, if_false, reduceIte, List.cons.injEq, reduceCtorEq, Nat.reduceEqDiff, List.length_nil, List.length_cons, Nat.reduceAdd, Nat.reduceLT, List.set_cons_zero, List.set_cons_succ, ↓us_lFnCourse, r_lFnCourse]
      refine m_al ?_
      rintro bm we hbm hblke hxe hse
      simp only [↓vsd, vsn, gW, qd, qv, ev, pick, argE, List.map_cons, List.map_nil, Option.map_some, Option.map_none, zipE, List.cons_append, List.nil_append, ne_eq, eq_self, forall_const, implies_true, if_true, if_false, reduceIte, List.cons.injEq, reduceCtorEq, Nat.reduceEqDiff, List.length_nil, List.length_cons, Nat.reduceAdd, Nat.reduceLT, List.set_cons_zero, List.set_cons_succ, ↓us_lFnCourse, r_lFnCourse]
      refine m_st hblke rfl (Nat.le_refl 3) (fM_one nm st _ hoM.sq.one') ?_
      rintro wf hblkf huf
      have hMf : Blk wf bm (fM nm st x) 58 := hblkf
      have hoF := (hoM.ext hxe).upd huf (hoM.away (by omega))
      have hxF : Ext w wf := huf.below (hxB.trans (hxd.trans hxe)) (by have := (hxB.trans hxd).size; omega)
      have hc8' : ∀ c ∈ cs, c.length ≤ 1048576 := fun c hc => by have := hc8 c hc; omega
      simp only [↓vsd, vsn, gW, qd, qv, ev, pick, argE, List.map_cons, List.map_nil, Option.map_some, Option.map_none, zipE, List.cons_append, List.nil_append, ne_eq, eq_self, forall_const, implies_true, if_true, if_false, reduceIte, List.cons.injEq, reduceCtorEq, Nat.reduceEqDiff, List.length_nil, List.length_cons, Nat.reduceAdd, Nat.reduceLT, List.set_cons_zero, List.set_cons_succ, ↓us_lFnCourse, r_lFnCourse, hMf.facts, fMg]
      refine m_call (iTurnOf_ok nm st x cs (by omega) hc8' (by omega) _ hoF.sq) ?_
      rintro rg wg hxg hrg
      have hMg := hMf.ext hxg
      have hoG := hoF.ext hxg
      by_cases hT : IsLarge nm st cs ∧ turnN st.toNat (underL (roundsL st.toNat) cs) ≠ 0
      · have eT : turnV nm st cs = .tuple ⟨[.int .i64 (turnN st.toNat (underL (roundsL st.toNat) cs) : Nat), .bool true]⟩ := by rw [turnV, if_pos hT]
        have eR : regV nm st cs = .tuple ⟨[.bool true, .bool true]⟩ := by rw [regV, if_pos hT.1, decide_eq_true (by omega)]
        rw [eT] at hrg
        subst hrg
        simp only [↓vsd, vsn, gW, qd, qv, ev, pick, argE, List.map_cons, List.map_nil, Option.map_some, Option.map_none, zipE, List.cons_append, List.nil_append, ne_eq, eq_self, forall_const, implies_true, if_true, if_false, reduceIte, List.cons.injEq, reduceCtorEq, Nat.reduceEqDiff, List.length_nil, List.length_cons, Nat.reduceAdd, Nat.reduceLT, List.set_cons_zero, List.set_cons_succ, ↓us_lFnCourse, r_lFnCourse, hMg.facts, fMg]
        refine m_call (sTurnOf_ok nm st x cs (by omega) hc8' (by omega) _ hoG.sq) ?_
        rintro rh wh hxh hrh
        rw [eT] at hrh
        subst hrh
        have hMh := hMg.ext hxh
        have hoH := hoG.ext hxh
        simp only [↓vsd, vsn, gW, qd, qv, ev, pick, argE, List.map_cons, List.map_nil, Option.map_some, Option.map_none, zipE, List.cons_append, List.nil_append, ne_eq, eq_self, forall_const, implies_true, if_true, if_false, reduceIte, List.cons.injEq, reduceCtorEq, Nat.reduceEqDiff, List.length_nil, List.length_cons, Nat.reduceAdd, Nat.reduceLT, List.set_cons_zero, List.set_cons_succ, ↓us_lFnCourse, r_lFnCourse, hMh.facts, fMg]
        refine m_call (iIsRegular_ok nm st x cs (by omega) hc8' (by omega) _ hoH.sq) ?_
        rintro ri wi hxi hri
        rw [eR] at hri
        subst hri
        have hMi := hMh.ext hxi
        have hoI := hoH.ext hxi
        simp only [↓vsd, vsn, gW, qd, qv, ev, pick, argE, List.map_cons, List.map_nil, Option.map_some, Option.map_none, zipE, List.cons_append, List.nil_append, ne_eq, eq_self, forall_const, implies_true, if_true, if_false, reduceIte, List.cons.injEq, reduceCtorEq, Nat.reduceEqDiff, List.length_nil, List.length_cons, Nat.reduceAdd, Nat.reduceLT, List.set_cons_zero, List.set_cons_succ, ↓us_lFnCourse, r_lFnCourse, hMi.facts, fMg]
        refine m_call (sIsRegular_ok nm st x cs (by omega) hc8' (by omega) _ hoI.sq) ?_
        rintro rj wj hxj hrj
        rw [eR] at hrj
        subst hrj
        have hMj := hMi.ext hxj
        have hoJ := hoI.ext hxj
        have hxC := hxF.trans (hxg.trans (hxh.trans (hxi.trans hxj)))
        simp only [↓vsd, vsn, gW, qd, qv, ev, pick, argE, List.map_cons, List.map_nil, Option.map_some, Option.map_none, zipE, List.cons_append, List.nil_append, ne_eq, eq_self, forall_const, implies_true, if_true, if_false, reduceIte, List.cons.injEq, reduceCtorEq, Nat.reduceEqDiff, List.length_nil, List.length_cons, Nat.reduceAdd, Nat.reduceLT, List.set_cons_zero, List.set_cons_succ, ↓us_lFnCourse, r_lFnCourse]
        have h8r := hok.1.1
        have hlow := hok.1.low (i := 0) (by omega)
        have hb0 := (r.getD 0 0).toNat_lt
        have hhigh := hok.1.high (i := 0) (by omega)
        refine ⟨by omega, inR_u8 (by omega), inR_i64 (by omega), m_call (iRowOfCourse_ok _ (courseL r) (by rw [courseL, List.length_map, cou_len _ (by omega)]; omega) _) ?_⟩
        rintro rk wk hxk hrk
        have hcl1 : (courseL r).length + 1 = r.length := by rw [courseL, List.length_map, cou_len _ (by omega)]; omega
        have hrc := roc_course hok.1 hok.2
        have ek : rocV (((r.getD 0 0).toNat : Int) - 48) (courseL r) = .tuple ⟨[S r, .bool true]⟩ := by
          rw [rocV, hcl1, hrc, if_pos ⟨by omega, by omega, hok.1⟩]
        rw [ek] at hrk
        subst hrk
        have hxC := hxC.trans hxk
        have hMj := hMj.ext hxk
        have hoJ := hoJ.ext hxk
        simp only [↓vsd, vsn, gW, qd, qv, ev, pick, argE, List.map_cons, List.map_nil, Option.map_some, Option.map_none, zipE, List.cons_append, List.nil_append, ne_eq, eq_self, forall_const, implies_true, if_true, if_false, reduceIte, List.cons.injEq, reduceCtorEq, Nat.reduceEqDiff, List.length_nil, List.length_cons, Nat.reduceAdd, Nat.reduceLT, List.set_cons_zero, List.set_cons_succ, ↓us_lFnCourse, r_lFnCourse]
        have hL := hT.1
        have h8s := hL.1.2.1
        have h4s := hL.2
        have hts := turnGo_is st.toNat (underL (roundsL st.toNat) cs) (st.toNat - 2) 1 hT.2
        have hrow := underL_row cs (roundsL_row st.toNat (by omega))
        have hul := underL_len cs (roundsL st.toNat)
        rw [roundsL_len] at hul
        have ehd : headV nm st cs = .tuple ⟨[S (underL (roundsL st.toNat) cs), .bool true]⟩ := by rw [headV, if_pos hL.1]
        have ecd : courseV (underL (roundsL st.toNat) cs) = .tuple ⟨[S (courseL (underL (roundsL st.toNat) cs)), .bool true]⟩ := by rw [courseV, if_pos ⟨hrow, by omega⟩]
        have erd : roundsV st = .tuple ⟨[S (roundsL st.toNat), .bool true]⟩ := by rw [roundsV, if_pos (by omega)]
        have ecr2 : courseV (roundsL st.toNat) = .tuple ⟨[S (courseL (roundsL st.toNat)), .bool true]⟩ := by rw [courseV, if_pos ⟨roundsL_row _ (by omega), by rw [roundsL_len]; omega⟩]
        have hcw : (courseL (roundsL st.toNat)).length = st.toNat - 1 := by rw [courseL, List.length_map, roundsL_len, cou_len _ (by omega)]
        have htt := hts.1.2
        have htn : turnGo st.toNat (underL (roundsL st.toNat) cs) (st.toNat - 2) 1 = turnN st.toNat (underL (roundsL st.toNat) cs) := rfl
        rw [htn] at hts htt
        generalize turnN st.toNat (underL (roundsL st.toNat) cs) = tn at *
        generalize underL (roundsL st.toNat) cs = hd at *
        simp only [↓vsd, vsn, gW, qd, qv, ev, pick, argE, List.map_cons, List.map_nil, Option.map_some, Option.map_none, zipE, List.cons_append, List.nil_append, ne_eq, eq_self, forall_const, implies_true, if_true, if_false, reduceIte, List.cons.injEq, reduceCtorEq, Nat.reduceEqDiff, List.length_nil, List.length_cons, Nat.reduceAdd, Nat.reduceLT, List.set_cons_zero, List.set_cons_succ, ↓us_lFnCourse, r_lFnCourse, hMj.facts, fMg]
        refine m_call (sLeadHead_ok nm st x cs (by omega) hc8' (by omega) _ hoJ.sq) ?_
        rintro rn wn hxn hrn
        rw [ehd] at hrn
        subst hrn
        have hMn := hMj.ext hxn
        simp only [↓vsd, vsn, gW, qd, qv, ev, pick, argE, List.map_cons, List.map_nil, Option.map_some, Option.map_none, zipE, List.cons_append, List.nil_append, ne_eq, eq_self, forall_const, implies_true, if_true, if_false, reduceIte, List.cons.injEq, reduceCtorEq, Nat.reduceEqDiff, List.length_nil, List.length_cons, Nat.reduceAdd, Nat.reduceLT, List.set_cons_zero, List.set_cons_succ, ↓us_lFnCourse, r_lFnCourse, hMn.facts, fMg]
        refine m_call (sRoundsOf_ok st _) ?_
        rintro ro wo hxo hro
        rw [erd] at hro
        subst hro
        simp only [↓vsd, vsn, gW, qd, qv, ev, pick, argE, List.map_cons, List.map_nil, Option.map_some, Option.map_none, zipE, List.cons_append, List.nil_append, ne_eq, eq_self, forall_const, implies_true, if_true, if_false, reduceIte, List.cons.injEq, reduceCtorEq, Nat.reduceEqDiff, List.length_nil, List.length_cons, Nat.reduceAdd, Nat.reduceLT, List.set_cons_zero, List.set_cons_succ, ↓us_lFnCourse, r_lFnCourse]
        refine m_call (iCourseOf_ok hd _) ?_
        rintro rp wp hxp hrp
        rw [ecd] at hrp
        subst hrp
        simp only [↓vsd, vsn, gW, qd, qv, ev, pick, argE, List.map_cons, List.map_nil, Option.map_some, Option.map_none, zipE, List.cons_append, List.nil_append, ne_eq, eq_self, forall_const, implies_true, if_true, if_false, reduceIte, List.cons.injEq, reduceCtorEq, Nat.reduceEqDiff, List.length_nil, List.length_cons, Nat.reduceAdd, Nat.reduceLT, List.set_cons_zero, List.set_cons_succ, ↓us_lFnCourse, r_lFnCourse]
        refine m_call (iCourseOf_ok (roundsL st.toNat) _) ?_
        rintro rq wq hxq hrq
        rw [ecr2] at hrq
        subst hrq
        have c1 : 0 < (tn : Int) := by omega
        have c2 : (tn : Int) < (courseL (roundsL st.toNat)).length := by omega
        simp only [↓vsd, vsn, gW, qd, qv, ev, pick, argE, List.map_cons, List.map_nil, Option.map_some, Option.map_none, zipE, List.cons_append, List.nil_append, ne_eq, eq_self, forall_const, implies_true, if_true, if_false, reduceIte, List.cons.injEq, reduceCtorEq, Nat.reduceEqDiff, List.length_nil, List.length_cons, Nat.reduceAdd, Nat.reduceLT, List.set_cons_zero, List.set_cons_succ, ↓us_lFnCourse, r_lFnCourse, c1, c2]
        have hdl : ((courseL (roundsL st.toNat)).drop tn).length = st.toNat - 1 - tn := by rw [List.length_drop, hcw]
        have htl : ((courseL (roundsL st.toNat)).take tn).length ≤ tn := by rw [List.length_take]; omega
        have htn9 : (tn : Int) ≤ (courseL (roundsL st.toNat)).length := by omega
        exact ⟨⟨by omega, htn9⟩, ⟨by omega, htn9⟩, by omega, hxC.trans (hxn.trans (hxo.trans (hxp.trans hxq))), htt⟩
      · have eT : turnV nm st cs = .tuple ⟨[.int .i64 0, .bool false]⟩ := by rw [turnV, if_neg hT]
        obtain ⟨gb, eR⟩ : ∃ gb, regV nm st cs = .tuple ⟨[.bool false, .bool gb]⟩ := by
          unfold regV
          split
          · rename_i hL
            exact ⟨true, by rw [decide_eq_false (by have : turnN st.toNat (underL (roundsL st.toNat) cs) = 0 := Classical.byContradiction fun h => hT ⟨hL, h⟩
                                                    omega)]⟩
          · exact ⟨false, rfl⟩
        rw [eT] at hrg
        subst hrg
        simp only [↓vsd, vsn, gW, qd, qv, ev, pick, argE, List.map_cons, List.map_nil, Option.map_some, Option.map_none, zipE, List.cons_append, List.nil_append, ne_eq, eq_self, forall_const, implies_true, if_true, if_false, reduceIte, List.cons.injEq, reduceCtorEq, Nat.reduceEqDiff, List.length_nil, List.length_cons, Nat.reduceAdd, Nat.reduceLT, List.set_cons_zero, List.set_cons_succ, ↓us_lFnCourse, r_lFnCourse, hMg.facts, fMg]
        refine m_call (sTurnOf_ok nm st x cs (by omega) hc8' (by omega) _ hoG.sq) ?_
        rintro rh wh hxh hrh
        rw [eT] at hrh
        subst hrh
        have hMh := hMg.ext hxh
        have hoH := hoG.ext hxh
        simp only [↓vsd, vsn, gW, qd, qv, ev, pick, argE, List.map_cons, List.map_nil, Option.map_some, Option.map_none, zipE, List.cons_append, List.nil_append, ne_eq, eq_self, forall_const, implies_true, if_true, if_false, reduceIte, List.cons.injEq, reduceCtorEq, Nat.reduceEqDiff, List.length_nil, List.length_cons, Nat.reduceAdd, Nat.reduceLT, List.set_cons_zero, List.set_cons_succ, ↓us_lFnCourse, r_lFnCourse, hMh.facts, fMg]
        refine m_call (iIsRegular_ok nm st x cs (by omega) hc8' (by omega) _ hoH.sq) ?_
        rintro ri wi hxi hri
        rw [eR] at hri
        subst hri
        have hMi := hMh.ext hxi
        have hoI := hoH.ext hxi
        simp only [↓vsd, vsn, gW, qd, qv, ev, pick, argE, List.map_cons, List.map_nil, Option.map_some, Option.map_none, zipE, List.cons_append, List.nil_append, ne_eq, eq_self, forall_const, implies_true, if_true, if_false, reduceIte, List.cons.injEq, reduceCtorEq, Nat.reduceEqDiff, List.length_nil, List.length_cons, Nat.reduceAdd, Nat.reduceLT, List.set_cons_zero, List.set_cons_succ, ↓us_lFnCourse, r_lFnCourse, hMi.facts, fMg]
        refine m_call (sIsRegular_ok nm st x cs (by omega) hc8' (by omega) _ hoI.sq) ?_
        rintro rj wj hxj hrj
        rw [eR] at hrj
        subst hrj
        have hMj := hMi.ext hxj
        have hoJ := hoI.ext hxj
        have hxC := hxF.trans (hxg.trans (hxh.trans (hxi.trans hxj)))
        simp only [↓vsd, vsn, gW, qd, qv, ev, pick, argE, List.map_cons, List.map_nil, Option.map_some, Option.map_none, zipE, List.cons_append, List.nil_append, ne_eq, eq_self, forall_const, implies_true, if_true, if_false, reduceIte, List.cons.injEq, reduceCtorEq, Nat.reduceEqDiff, List.length_nil, List.length_cons, Nat.reduceAdd, Nat.reduceLT, List.set_cons_zero, List.set_cons_succ, ↓us_lFnCourse, r_lFnCourse]
        have h8r := hok.1.1
        have hlow := hok.1.low (i := 0) (by omega)
        have hb0 := (r.getD 0 0).toNat_lt
        have hhigh := hok.1.high (i := 0) (by omega)
        refine ⟨by omega, inR_u8 (by omega), inR_i64 (by omega), m_call (iRowOfCourse_ok _ (courseL r) (by rw [courseL, List.length_map, cou_len _ (by omega)]; omega) _) ?_⟩
        rintro rk wk hxk hrk
        have hcl1 : (courseL r).length + 1 = r.length := by rw [courseL, List.length_map, cou_len _ (by omega)]; omega
        have hrc := roc_course hok.1 hok.2
        have ek : rocV (((r.getD 0 0).toNat : Int) - 48) (courseL r) = .tuple ⟨[S r, .bool true]⟩ := by
          rw [rocV, hcl1, hrc, if_pos ⟨by omega, by omega, hok.1⟩]
        rw [ek] at hrk
        subst hrk
        have hxC := hxC.trans hxk
        have hMj := hMj.ext hxk
        have hoJ := hoJ.ext hxk
        simp only [↓vsd, vsn, gW, qd, qv, ev, pick, argE, List.map_cons, List.map_nil, Option.map_some, Option.map_none, zipE, List.cons_append, List.nil_append, ne_eq, eq_self, forall_const, implies_true, if_true, if_false, reduceIte, List.cons.injEq, reduceCtorEq, Nat.reduceEqDiff, List.length_nil, List.length_cons, Nat.reduceAdd, Nat.reduceLT, List.set_cons_zero, List.set_cons_succ, ↓us_lFnCourse, r_lFnCourse]
        exact hxC
  · have ec : courseV r = .tuple ⟨[S [], .bool false]⟩ := by rw [courseV, if_neg hok]
    rw [ec] at hr2
    subst hr2
    simp only [↓vsd, vsn, gW, qd, qv, ev, pick, argE, List.map_cons, List.map_nil, Option.map_some, Option.map_none, zipE, List.cons_append, List.nil_append, ne_eq, eq_self, forall_const, implies_true, if_true, if_false, reduceIte, List.cons.injEq, reduceCtorEq, Nat.reduceEqDiff, List.length_nil, List.length_cons, Nat.reduceAdd, Nat.reduceLT, List.set_cons_zero, List.set_cons_succ, ↓us_lFnCourse, r_lFnCourse]
    refine m_call (sCourseOf_ok r _) ?_
    rintro r3 w3 hx3 hr3
    rw [ec] at hr3
    subst hr3
    simp only [↓vsd, vsn, gW, qd, qv, ev, pick, argE, List.map_cons, List.map_nil, Option.map_some, Option.map_none, zipE, List.cons_append, List.nil_append, ne_eq, eq_self, forall_const, implies_true, if_true, if_false, reduceIte, List.cons.injEq, reduceCtorEq, Nat.reduceEqDiff, List.length_nil, List.length_cons, Nat.reduceAdd, Nat.reduceLT, List.set_cons_zero, List.set_cons_succ, ↓us_lFnCourse, r_lFnCourse]
    have hxA := hx1.trans (hx2.trans hx3)
    refine m_call (sDrawRowOfCourse_ok u more hlen.2 _ (h'.ext hxA)) ?_
    rintro _ wa hxa ⟨f, s, rfl, hs100⟩
    simp only [↓vsd, vsn, gW, qd, qv, ev, pick, argE, List.map_cons, List.map_nil, Option.map_some, Option.map_none, zipE, List.cons_append, List.nil_append, ne_eq, eq_self, forall_const, implies_true, if_true, if_false, reduceIte, List.cons.injEq, reduceCtorEq, Nat.reduceEqDiff, List.length_nil, List.length_cons, Nat.reduceAdd, Nat.reduceLT, List.set_cons_zero, List.set_cons_succ, ↓us_lFnCourse, r_lFnCourse]
    refine m_call (iRowOfCourse_ok f s (by omega) _) ?_
    rintro rb wb hxb hrb
    by_cases hR : (4 ≤ s.length + 1 ∧ s.length + 1 ≤ 8) ∧ (1 ≤ f ∧ f ≤ s.length + 1) ∧ IsRow (rocM (s.length + 1) f.toNat s s.length)
    · have er : rocV f s = .tuple ⟨[S (rocM (s.length + 1) f.toNat s s.length), .bool true]⟩ := by rw [rocV, if_pos hR]
      rw [er] at hrb
      subst hrb
      simp only [↓vsd, vsn, gW, qd, qv, ev, pick, argE, List.map_cons, List.map_nil, Option.map_some, Option.map_none, zipE, List.cons_append, List.nil_append, ne_eq, eq_self, forall_const, implies_true, if_true, if_false, reduceIte, List.cons.injEq, reduceCtorEq, Nat.reduceEqDiff, List.length_nil, List.length_cons, Nat.reduceAdd, Nat.reduceLT, List.set_cons_zero, List.set_cons_succ, ↓us_lFnCourse, r_lFnCourse]
      refine m_call (sRowOfCourse_ok f s (by omega) _) ?_
      rintro rc wc hxc hrc
      rw [er] at hrc
      subst hrc
      have hxB := hxA.trans (hxa.trans (hxb.trans hxc))
      simp only [↓vsd, vsn, gW, qd, qv, ev, pick, argE, List.map_cons, List.map_nil, Option.map_some, Option.map_none, zipE, List.cons_append, List.nil_append, ne_eq, eq_self, forall_const, implies_true, if_true, if_false, reduceIte, List.cons.injEq, reduceCtorEq, Nat.reduceEqDiff, List.length_nil, List.length_cons, Nat.reduceAdd, Nat.reduceLT, List.set_cons_zero, List.set_cons_succ, ↓us_lFnCourse, r_lFnCourse]
      refine m_call (sDrawTurnOf_ok u more hlen.2 _ (h'.ext hxB)) ?_
      rintro _ wd hxd ⟨nm, st, x, cs, rfl, hoM, hnm11, hst29, hcs60, hc8⟩
      simp only [↓vsd, vsn, gW, qd, qv, ev, pick, argE, List.map_cons, List.map_nil, Option.map_some, Option.map_none, zipE, List.cons_append, List.nil_append, ne_eq, eq_self, forall_const, implies_true, if_true, if_false, reduceIte, List.cons.injEq, reduceCtorEq, Nat.reduceEqDiff, List.length_nil, List.length_cons, Nat.reduceAdd, Nat.reduceLT, List.set_cons_zero, List.set_cons_succ, ↓us_lFnCourse, r_lFnCourse]
      refine m_al ?_
      rintro bm we hbm hblke hxe hse
      simp only [↓vsd, vsn, gW, qd, qv, ev, pick, argE, List.map_cons, List.map_nil, Option.map_some, Option.map_none, zipE, List.cons_append, List.nil_append, ne_eq, eq_self, forall_const, implies_true, if_true, if_false, reduceIte, List.cons.injEq, reduceCtorEq, Nat.reduceEqDiff, List.length_nil, List.length_cons, Nat.reduceAdd, Nat.reduceLT, List.set_cons_zero, List.set_cons_succ, ↓us_lFnCourse, r_lFnCourse]
      refine m_st hblke rfl (Nat.le_refl 3) (fM_one nm st _ hoM.sq.one') ?_
      rintro wf hblkf huf
      have hMf : Blk wf bm (fM nm st x) 58 := hblkf
      have hoF := (hoM.ext hxe).upd huf (hoM.away (by omega))
      have hxF : Ext w wf := huf.below (hxB.trans (hxd.trans hxe)) (by have := (hxB.trans hxd).size; omega)
      have hc8' : ∀ c ∈ cs, c.length ≤ 1048576 := fun c hc => by have := hc8 c hc; omega
      simp only [↓vsd, vsn, gW, qd, qv, ev, pick, argE, List.map_cons, List.map_nil, Option.map_some, Option.map_none, zipE, List.cons_append, List.nil_append, ne_eq, eq_self, forall_const, implies_true, if_true, if_false, reduceIte, List.cons.injEq, reduceCtorEq, Nat.reduceEqDiff, List.length_nil, List.length_cons, Nat.reduceAdd, Nat.reduceLT, List.set_cons_zero, List.set_cons_succ, ↓us_lFnCourse, r_lFnCourse, hMf.facts, fMg]
      refine m_call (iTurnOf_ok nm st x cs (by omega) hc8' (by omega) _ hoF.sq) ?_
      rintro rg wg hxg hrg
      have hMg := hMf.ext hxg
      have hoG := hoF.ext hxg
      by_cases hT : IsLarge nm st cs ∧ turnN st.toNat (underL (roundsL st.toNat) cs) ≠ 0
      · have eT : turnV nm st cs = .tuple ⟨[.int .i64 (turnN st.toNat (underL (roundsL st.toNat) cs) : Nat), .bool true]⟩ := by rw [turnV, if_pos hT]
        have eR : regV nm st cs = .tuple ⟨[.bool true, .bool true]⟩ := by rw [regV, if_pos hT.1, decide_eq_true (by omega)]
        rw [eT] at hrg
        subst hrg
        simp only [↓vsd, vsn, gW, qd, qv, ev, pick, argE, List.map_cons, List.map_nil, Option.map_some, Option.map_none, zipE, List.cons_append, List.nil_append, ne_eq, eq_self, forall_const, implies_true, if_true, if_false, reduceIte, List.cons.injEq, reduceCtorEq, Nat.reduceEqDiff, List.length_nil, List.length_cons, Nat.reduceAdd, Nat.reduceLT, List.set_cons_zero, List.set_cons_succ, ↓us_lFnCourse, r_lFnCourse, hMg.facts, fMg]
        refine m_call (sTurnOf_ok nm st x cs (by omega) hc8' (by omega) _ hoG.sq) ?_
        rintro rh wh hxh hrh
        rw [eT] at hrh
        subst hrh
        have hMh := hMg.ext hxh
        have hoH := hoG.ext hxh
        simp only [↓vsd, vsn, gW, qd, qv, ev, pick, argE, List.map_cons, List.map_nil, Option.map_some, Option.map_none, zipE, List.cons_append, List.nil_append, ne_eq, eq_self, forall_const, implies_true, if_true, if_false, reduceIte, List.cons.injEq, reduceCtorEq, Nat.reduceEqDiff, List.length_nil, List.length_cons, Nat.reduceAdd, Nat.reduceLT, List.set_cons_zero, List.set_cons_succ, ↓us_lFnCourse, r_lFnCourse, hMh.facts, fMg]
        refine m_call (iIsRegular_ok nm st x cs (by omega) hc8' (by omega) _ hoH.sq) ?_
        rintro ri wi hxi hri
        rw [eR] at hri
        subst hri
        have hMi := hMh.ext hxi
        have hoI := hoH.ext hxi
        simp only [↓vsd, vsn, gW, qd, qv, ev, pick, argE, List.map_cons, List.map_nil, Option.map_some, Option.map_none, zipE, List.cons_append, List.nil_append, ne_eq, eq_self, forall_const, implies_true, if_true, if_false, reduceIte, List.cons.injEq, reduceCtorEq, Nat.reduceEqDiff, List.length_nil, List.length_cons, Nat.reduceAdd, Nat.reduceLT, List.set_cons_zero, List.set_cons_succ, ↓us_lFnCourse, r_lFnCourse, hMi.facts, fMg]
        refine m_call (sIsRegular_ok nm st x cs (by omega) hc8' (by omega) _ hoI.sq) ?_
        rintro rj wj hxj hrj
        rw [eR] at hrj
        subst hrj
        have hMj := hMi.ext hxj
        have hoJ := hoI.ext hxj
        have hxC := hxF.trans (hxg.trans (hxh.trans (hxi.trans hxj)))
        simp only [↓vsd, vsn, gW, qd, qv, ev, pick, argE, List.map_cons, List.map_nil, Option.map_some, Option.map_none, zipE, List.cons_append, List.nil_append, ne_eq, eq_self, forall_const, implies_true, if_true, if_false, reduceIte, List.cons.injEq, reduceCtorEq, Nat.reduceEqDiff, List.length_nil, List.length_cons, Nat.reduceAdd, Nat.reduceLT, List.set_cons_zero, List.set_cons_succ, ↓us_lFnCourse, r_lFnCourse]
        have hrl := rocM_len (s.length + 1) f.toNat s s.length
        have ecr : courseV (rocM (s.length + 1) f.toNat s s.length) = .tuple ⟨[S s, .bool true]⟩ := by
          rw [courseV, if_pos ⟨hR.2.2, by omega⟩, course_roc (s.length + 1) f.toNat s (by omega) rfl]
        have ex0 := (rocM_at (s.length + 1) f.toNat s (by omega) rfl s.length (Nat.le_refl _)).1
        have ex1 : ((UInt8.ofNat (48 + f.toNat)).toNat : Int) - 48 = f := by rw [u8_nat (by omega)]; omega
        have hu8 : (UInt8.ofNat (48 + f.toNat)).toNat = 48 + f.toNat := u8_nat (by omega)
        refine m_call (iCourseOf_ok _ _) ?_
        rintro rm wm hxm hrm
        rw [ecr] at hrm
        subst hrm
        have hxC := hxC.trans hxm
        have hMj := hMj.ext hxm
        have hoJ := hoJ.ext hxm
        simp only [↓vsd, vsn, gW, qd, qv, ev, pick, argE, List.map_cons, List.map_nil, Option.map_some, Option.map_none, zipE, List.cons_append, List.nil_append, ne_eq, eq_self, forall_const, implies_true, if_true, if_false, reduceIte, List.cons.injEq, reduceCtorEq, Nat.reduceEqDiff, List.length_nil, List.length_cons, Nat.reduceAdd, Nat.reduceLT, List.set_cons_zero, List.set_cons_succ, ↓us_lFnCourse, r_lFnCourse, hrl, ex0, ex1]
        refine ⟨by omega, inR_u8 (by omega), inR_i64 (by omega), ?_⟩
        have hL := hT.1
        have h8s := hL.1.2.1
        have h4s := hL.2
        have hts := turnGo_is st.toNat (underL (roundsL st.toNat) cs) (st.toNat - 2) 1 hT.2
        have hrow := underL_row cs (roundsL_row st.toNat (by omega))
        have hul := underL_len cs (roundsL st.toNat)
        rw [roundsL_len] at hul
        have ehd : headV nm st cs = .tuple ⟨[S (underL (roundsL st.toNat) cs), .bool true]⟩ := by rw [headV, if_pos hL.1]
        have ecd : courseV (underL (roundsL st.toNat) cs) = .tuple ⟨[S (courseL (underL (roundsL st.toNat) cs)), .bool true]⟩ := by rw [courseV, if_pos ⟨hrow, by omega⟩]
        have erd : roundsV st = .tuple ⟨[S (roundsL st.toNat), .bool true]⟩ := by rw [roundsV, if_pos (by omega)]
        have ecr2 : courseV (roundsL st.toNat) = .tuple ⟨[S (courseL (roundsL st.toNat)), .bool true]⟩ := by rw [courseV, if_pos ⟨roundsL_row _ (by omega), by rw [roundsL_len]; omega⟩]
        have hcw : (courseL (roundsL st.toNat)).length = st.toNat - 1 := by rw [courseL, List.length_map, roundsL_len, cou_len _ (by omega)]
        have htt := hts.1.2
        have htn : turnGo st.toNat (underL (roundsL st.toNat) cs) (st.toNat - 2) 1 = turnN st.toNat (underL (roundsL st.toNat) cs) := rfl
        rw [htn] at hts htt
        generalize turnN st.toNat (underL (roundsL st.toNat) cs) = tn at *
        generalize underL (roundsL st.toNat) cs = hd at *
        simp only [↓vsd, vsn, gW, qd, qv, ev, pick, argE, List.map_cons, List.map_nil, Option.map_some, Option.map_none, zipE, List.cons_append, List.nil_append, ne_eq, eq_self, forall_const, implies_true, if_true, if_false, reduceIte, List.cons.injEq, reduceCtorEq, Nat.reduceEqDiff, List.length_nil, List.length_cons, Nat.reduceAdd, Nat.reduceLT, List.set_cons_zero, List.set_cons_succ, ↓us_lFnCourse, r_lFnCourse, hMj.facts, fMg]
        refine m_call (sLeadHead_ok nm st x cs (by omega) hc8' (by omega) _ hoJ.sq) ?_
        rintro rn wn hxn hrn
        rw [ehd] at hrn
        subst hrn
        have hMn := hMj.ext hxn
        simp only [↓vsd, vsn, gW, qd, qv, ev, pick, argE, List.map_cons, List.map_nil, Option.map_some, Option.map_none, zipE, List.cons_append, List.nil_append, ne_eq, eq_self, forall_const, implies_true, if_true, if_false, reduceIte, List.cons.injEq, reduceCtorEq, Nat.reduceEqDiff, List.length_nil, List.length_cons, Nat.reduceAdd, Nat.reduceLT, List.set_cons_zero, List.set_cons_succ, ↓us_lFnCourse, r_lFnCourse, hMn.facts, fMg]
        refine m_call (sRoundsOf_ok st _) ?_
        rintro ro wo hxo hro
        rw [erd] at hro
        subst hro
        simp only [↓vsd, vsn, gW, qd, qv, ev, pick, argE, List.map_cons, List.map_nil, Option.map_some, Option.map_none, zipE, List.cons_append, List.nil_append, ne_eq, eq_self, forall_const, implies_true, if_true, if_false, reduceIte, List.cons.injEq, reduceCtorEq, Nat.reduceEqDiff, List.length_nil, List.length_cons, Nat.reduceAdd, Nat.reduceLT, List.set_cons_zero, List.set_cons_succ, ↓us_lFnCourse, r_lFnCourse]
        refine m_call (iCourseOf_ok hd _) ?_
        rintro rp wp hxp hrp
        rw [ecd] at hrp
        subst hrp
        simp only [↓vsd, vsn, gW, qd, qv, ev, pick, argE, List.map_cons, List.map_nil, Option.map_some, Option.map_none, zipE, List.cons_append, List.nil_append, ne_eq, eq_self, forall_const, implies_true, if_true, if_false, reduceIte, List.cons.injEq, reduceCtorEq, Nat.reduceEqDiff, List.length_nil, List.length_cons, Nat.reduceAdd, Nat.reduceLT, List.set_cons_zero, List.set_cons_succ, ↓us_lFnCourse, r_lFnCourse]
        refine m_call (iCourseOf_ok (roundsL st.toNat) _) ?_
        rintro rq wq hxq hrq
        rw [ecr2] at hrq
        subst hrq
        have c1 : 0 < (tn : Int) := by omega
        have c2 : (tn : Int) < (courseL (roundsL st.toNat)).length := by omega
        simp only [↓vsd, vsn, gW, qd, qv, ev, pick, argE, List.map_cons, List.map_nil, Option.map_some, Option.map_none, zipE, List.cons_append, List.nil_append, ne_eq, eq_self, forall_const, implies_true, if_true, if_false, reduceIte, List.cons.injEq, reduceCtorEq, Nat.reduceEqDiff, List.length_nil, List.length_cons, Nat.reduceAdd, Nat.reduceLT, List.set_cons_zero, List.set_cons_succ, ↓us_lFnCourse, r_lFnCourse, c1, c2]
        have hdl : ((courseL (roundsL st.toNat)).drop tn).length = st.toNat - 1 - tn := by rw [List.length_drop, hcw]
        have htl : ((courseL (roundsL st.toNat)).take tn).length ≤ tn := by rw [List.length_take]; omega
        have htn9 : (tn : Int) ≤ (courseL (roundsL st.toNat)).length := by omega
        exact ⟨⟨by omega, htn9⟩, ⟨by omega, htn9⟩, by omega, hxC.trans (hxn.trans (hxo.trans (hxp.trans hxq))), htt⟩
      · have eT : turnV nm st cs = .tuple ⟨[.int .i64 0, .bool false]⟩ := by rw [turnV, if_neg hT]
        obtain ⟨gb, eR⟩ : ∃ gb, regV nm st cs = .tuple ⟨[.bool false, .bool gb]⟩ := by
          unfold regV
          split
          · rename_i hL
            exact ⟨true, by rw [decide_eq_false (by have : turnN st.toNat (underL (roundsL st.toNat) cs) = 0 := Classical.byContradiction fun h => hT ⟨hL, h⟩
                                                    omega)]⟩
          · exact ⟨false, rfl⟩
        rw [eT] at hrg
        subst hrg
        simp only [↓vsd, vsn, gW, qd, qv, ev, pick, argE, List.map_cons, List.map_nil, Option.map_some, Option.map_none, zipE, List.cons_append, List.nil_append, ne_eq, eq_self, forall_const, implies_true, if_true, if_false, reduceIte, List.cons.injEq, reduceCtorEq, Nat.reduceEqDiff, List.length_nil, List.length_cons, Nat.reduceAdd, Nat.reduceLT, List.set_cons_zero, List.set_cons_succ, ↓us_lFnCourse, r_lFnCourse, hMg.facts, fMg]
        refine m_call (sTurnOf_ok nm st x cs (by omega) hc8' (by omega) _ hoG.sq) ?_
        rintro rh wh hxh hrh
        rw [eT] at hrh
        subst hrh
        have hMh := hMg.ext hxh
        have hoH := hoG.ext hxh
        simp only [↓vsd, vsn, gW, qd, qv, ev, pick, argE, List.map_cons, List.map_nil, Option.map_some, Option.map_none, zipE, List.cons_append, List.nil_append, ne_eq, eq_self, forall_const, implies_true, if_true, if_false, reduceIte, List.cons.injEq, reduceCtorEq, Nat.reduceEqDiff, List.length_nil, List.length_cons, Nat.reduceAdd, Nat.reduceLT, List.set_cons_zero, List.set_cons_succ, ↓us_lFnCourse, r_lFnCourse, hMh.facts, fMg]
        refine m_call (iIsRegular_ok nm st x cs (by omega) hc8' (by omega) _ hoH.sq) ?_
        rintro ri wi hxi hri
        rw [eR] at hri
        subst hri
        have hMi := hMh.ext hxi
        have hoI := hoH.ext hxi
        simp only [↓vsd, vsn, gW, qd, qv, ev, pick, argE, List.map_cons, List.map_nil, Option.map_some, Option.map_none, zipE, List.cons_append, List.nil_append, ne_eq, eq_self, forall_const, implies_true, if_true, if_false, reduceIte, List.cons.injEq, reduceCtorEq, Nat.reduceEqDiff, List.length_nil, List.length_cons, Nat.reduceAdd, Nat.reduceLT, List.set_cons_zero, List.set_cons_succ, ↓us_lFnCourse, r_lFnCourse, hMi.facts, fMg]
        refine m_call (sIsRegular_ok nm st x cs (by omega) hc8' (by omega) _ hoI.sq) ?_
        rintro rj wj hxj hrj
        rw [eR] at hrj
        subst hrj
        have hMj := hMi.ext hxj
        have hoJ := hoI.ext hxj
        have hxC := hxF.trans (hxg.trans (hxh.trans (hxi.trans hxj)))
        simp only [↓vsd, vsn, gW, qd, qv, ev, pick, argE, List.map_cons, List.map_nil, Option.map_some, Option.map_none, zipE, List.cons_append, List.nil_append, ne_eq, eq_self, forall_const, implies_true, if_true, if_false, reduceIte, List.cons.injEq, reduceCtorEq, Nat.reduceEqDiff, List.length_nil, List.length_cons, Nat.reduceAdd, Nat.reduceLT, List.set_cons_zero, List.set_cons_succ, ↓us_lFnCourse, r_lFnCourse]
        have hrl := rocM_len (s.length + 1) f.toNat s s.length
        have ecr : courseV (rocM (s.length + 1) f.toNat s s.length) = .tuple ⟨[S s, .bool true]⟩ := by
          rw [courseV, if_pos ⟨hR.2.2, by omega⟩, course_roc (s.length + 1) f.toNat s (by omega) rfl]
        have ex0 := (rocM_at (s.length + 1) f.toNat s (by omega) rfl s.length (Nat.le_refl _)).1
        have ex1 : ((UInt8.ofNat (48 + f.toNat)).toNat : Int) - 48 = f := by rw [u8_nat (by omega)]; omega
        have hu8 : (UInt8.ofNat (48 + f.toNat)).toNat = 48 + f.toNat := u8_nat (by omega)
        refine m_call (iCourseOf_ok _ _) ?_
        rintro rm wm hxm hrm
        rw [ecr] at hrm
        subst hrm
        have hxC := hxC.trans hxm
        have hMj := hMj.ext hxm
        have hoJ := hoJ.ext hxm
        simp only [↓vsd, vsn, gW, qd, qv, ev, pick, argE, List.map_cons, List.map_nil, Option.map_some, Option.map_none, zipE, List.cons_append, List.nil_append, ne_eq, eq_self, forall_const, implies_true, if_true, if_false, reduceIte, List.cons.injEq, reduceCtorEq, Nat.reduceEqDiff, List.length_nil, List.length_cons, Nat.reduceAdd, Nat.reduceLT, List.set_cons_zero, List.set_cons_succ, ↓us_lFnCourse, r_lFnCourse, hrl, ex0, ex1]
        refine ⟨by omega, inR_u8 (by omega), inR_i64 (by omega), ?_⟩
        exact hxC
    · have er : rocV f s = .tuple ⟨[S [], .bool false]⟩ := by rw [rocV, if_neg hR]
      rw [er] at hrb
      subst hrb
      simp only [↓vsd, vsn, gW, qd, qv, ev, pick, argE, List.map_cons, List.map_nil, Option.map_some, Option.map_none, zipE, List.cons_append, List.nil_append, ne_eq, eq_self, forall_const, implies_true, if_true, if_false, reduceIte, List.cons.injEq, reduceCtorEq, Nat.reduceEqDiff, List.length_nil, List.length_cons, Nat.reduceAdd, Nat.reduceLT, List.set_cons_zero, List.set_cons_succ, ↓us_lFnCourse, r_lFnCourse]
      refine m_call (sRowOfCourse_ok f s (by omega) _) ?_
      rintro rc wc hxc hrc
      rw [er] at hrc
      subst hrc
      have hxB := hxA.trans (hxa.trans (hxb.trans hxc))
      simp only [↓vsd, vsn, gW, qd, qv, ev, pick, argE, List.map_cons, List.map_nil, Option.map_some, Option.map_none, zipE, List.cons_append, List.nil_append, ne_eq, eq_self, forall_const, implies_true, if_true, if_false, reduceIte, List.cons.injEq, reduceCtorEq, Nat.reduceEqDiff, List.length_nil, List.length_cons, Nat.reduceAdd, Nat.reduceLT, List.set_cons_zero, List.set_cons_succ, ↓us_lFnCourse, r_lFnCourse]
      refine m_call (sDrawTurnOf_ok u more hlen.2 _ (h'.ext hxB)) ?_
      rintro _ wd hxd ⟨nm, st, x, cs, rfl, hoM, hnm11, hst29, hcs60, hc8⟩
      simp only [↓vsd, vsn, gW, qd, qv, ev, pick, argE, List.map_cons, List.map_nil, Option.map_some, Option.map_none, zipE, List.cons_append, List.nil_append, ne_eq, eq_self, forall_const, implies_true, if_true, if_false, reduceIte, List.cons.injEq, reduceCtorEq, Nat.reduceEqDiff, List.length_nil, List.length_cons, Nat.reduceAdd, Nat.reduceLT, List.set_cons_zero, List.set_cons_succ, ↓us_lFnCourse, r_lFnCourse]
      refine m_al ?_
      rintro bm we hbm hblke hxe hse
      simp only [↓vsd, vsn, gW, qd, qv, ev, pick, argE, List.map_cons, List.map_nil, Option.map_some, Option.map_none, zipE, List.cons_append, List.nil_append, ne_eq, eq_self, forall_const, implies_true, if_true, if_false, reduceIte, List.cons.injEq, reduceCtorEq, Nat.reduceEqDiff, List.length_nil, List.length_cons, Nat.reduceAdd, Nat.reduceLT, List.set_cons_zero, List.set_cons_succ, ↓us_lFnCourse, r_lFnCourse]
      refine m_st hblke rfl (Nat.le_refl 3) (fM_one nm st _ hoM.sq.one') ?_
      rintro wf hblkf huf
      have hMf : Blk wf bm (fM nm st x) 58 := hblkf
      have hoF := (hoM.ext hxe).upd huf (hoM.away (by omega))
      have hxF : Ext w wf := huf.below (hxB.trans (hxd.trans hxe)) (by have := (hxB.trans hxd).size; omega)
      have hc8' : ∀ c ∈ cs, c.length ≤ 1048576 := fun c hc => by have := hc8 c hc; omega
      simp only [↓vsd, vsn, gW, qd, qv, ev, pick, argE, List.map_cons, List.map_nil, Option.map_some, Option.map_none, zipE, List.cons_append, List.nil_append, ne_eq, eq_self, forall_const, implies_true, if_true, if_false, reduceIte, List.cons.injEq, reduceCtorEq, Nat.reduceEqDiff, List.length_nil, List.length_cons, Nat.reduceAdd, Nat.reduceLT, List.set_cons_zero, List.set_cons_succ, ↓us_lFnCourse, r_lFnCourse, hMf.facts, fMg]
      refine m_call (iTurnOf_ok nm st x cs (by omega) hc8' (by omega) _ hoF.sq) ?_
      rintro rg wg hxg hrg
      have hMg := hMf.ext hxg
      have hoG := hoF.ext hxg
      by_cases hT : IsLarge nm st cs ∧ turnN st.toNat (underL (roundsL st.toNat) cs) ≠ 0
      · have eT : turnV nm st cs = .tuple ⟨[.int .i64 (turnN st.toNat (underL (roundsL st.toNat) cs) : Nat), .bool true]⟩ := by rw [turnV, if_pos hT]
        have eR : regV nm st cs = .tuple ⟨[.bool true, .bool true]⟩ := by rw [regV, if_pos hT.1, decide_eq_true (by omega)]
        rw [eT] at hrg
        subst hrg
        simp only [↓vsd, vsn, gW, qd, qv, ev, pick, argE, List.map_cons, List.map_nil, Option.map_some, Option.map_none, zipE, List.cons_append, List.nil_append, ne_eq, eq_self, forall_const, implies_true, if_true, if_false, reduceIte, List.cons.injEq, reduceCtorEq, Nat.reduceEqDiff, List.length_nil, List.length_cons, Nat.reduceAdd, Nat.reduceLT, List.set_cons_zero, List.set_cons_succ, ↓us_lFnCourse, r_lFnCourse, hMg.facts, fMg]
        refine m_call (sTurnOf_ok nm st x cs (by omega) hc8' (by omega) _ hoG.sq) ?_
        rintro rh wh hxh hrh
        rw [eT] at hrh
        subst hrh
        have hMh := hMg.ext hxh
        have hoH := hoG.ext hxh
        simp only [↓vsd, vsn, gW, qd, qv, ev, pick, argE, List.map_cons, List.map_nil, Option.map_some, Option.map_none, zipE, List.cons_append, List.nil_append, ne_eq, eq_self, forall_const, implies_true, if_true, if_false, reduceIte, List.cons.injEq, reduceCtorEq, Nat.reduceEqDiff, List.length_nil, List.length_cons, Nat.reduceAdd, Nat.reduceLT, List.set_cons_zero, List.set_cons_succ, ↓us_lFnCourse, r_lFnCourse, hMh.facts, fMg]
        refine m_call (iIsRegular_ok nm st x cs (by omega) hc8' (by omega) _ hoH.sq) ?_
        rintro ri wi hxi hri
        rw [eR] at hri
        subst hri
        have hMi := hMh.ext hxi
        have hoI := hoH.ext hxi
        simp only [↓vsd, vsn, gW, qd, qv, ev, pick, argE, List.map_cons, List.map_nil, Option.map_some, Option.map_none, zipE, List.cons_append, List.nil_append, ne_eq, eq_self, forall_const, implies_true, if_true, if_false, reduceIte, List.cons.injEq, reduceCtorEq, Nat.reduceEqDiff, List.length_nil, List.length_cons, Nat.reduceAdd, Nat.reduceLT, List.set_cons_zero, List.set_cons_succ, ↓us_lFnCourse, r_lFnCourse, hMi.facts, fMg]
        refine m_call (sIsRegular_ok nm st x cs (by omega) hc8' (by omega) _ hoI.sq) ?_
        rintro rj wj hxj hrj
        rw [eR] at hrj
        subst hrj
        have hMj := hMi.ext hxj
        have hoJ := hoI.ext hxj
        have hxC := hxF.trans (hxg.trans (hxh.trans (hxi.trans hxj)))
        simp only [↓vsd, vsn, gW, qd, qv, ev, pick, argE, List.map_cons, List.map_nil, Option.map_some, Option.map_none, zipE, List.cons_append, List.nil_append, ne_eq, eq_self, forall_const, implies_true, if_true, if_false, reduceIte, List.cons.injEq, reduceCtorEq, Nat.reduceEqDiff, List.length_nil, List.length_cons, Nat.reduceAdd, Nat.reduceLT, List.set_cons_zero, List.set_cons_succ, ↓us_lFnCourse, r_lFnCourse]
        have hL := hT.1
        have h8s := hL.1.2.1
        have h4s := hL.2
        have hts := turnGo_is st.toNat (underL (roundsL st.toNat) cs) (st.toNat - 2) 1 hT.2
        have hrow := underL_row cs (roundsL_row st.toNat (by omega))
        have hul := underL_len cs (roundsL st.toNat)
        rw [roundsL_len] at hul
        have ehd : headV nm st cs = .tuple ⟨[S (underL (roundsL st.toNat) cs), .bool true]⟩ := by rw [headV, if_pos hL.1]
        have ecd : courseV (underL (roundsL st.toNat) cs) = .tuple ⟨[S (courseL (underL (roundsL st.toNat) cs)), .bool true]⟩ := by rw [courseV, if_pos ⟨hrow, by omega⟩]
        have erd : roundsV st = .tuple ⟨[S (roundsL st.toNat), .bool true]⟩ := by rw [roundsV, if_pos (by omega)]
        have ecr2 : courseV (roundsL st.toNat) = .tuple ⟨[S (courseL (roundsL st.toNat)), .bool true]⟩ := by rw [courseV, if_pos ⟨roundsL_row _ (by omega), by rw [roundsL_len]; omega⟩]
        have hcw : (courseL (roundsL st.toNat)).length = st.toNat - 1 := by rw [courseL, List.length_map, roundsL_len, cou_len _ (by omega)]
        have htt := hts.1.2
        have htn : turnGo st.toNat (underL (roundsL st.toNat) cs) (st.toNat - 2) 1 = turnN st.toNat (underL (roundsL st.toNat) cs) := rfl
        rw [htn] at hts htt
        generalize turnN st.toNat (underL (roundsL st.toNat) cs) = tn at *
        generalize underL (roundsL st.toNat) cs = hd at *
        simp only [↓vsd, vsn, gW, qd, qv, ev, pick, argE, List.map_cons, List.map_nil, Option.map_some, Option.map_none, zipE, List.cons_append, List.nil_append, ne_eq, eq_self, forall_const, implies_true, if_true, if_false, reduceIte, List.cons.injEq, reduceCtorEq, Nat.reduceEqDiff, List.length_nil, List.length_cons, Nat.reduceAdd, Nat.reduceLT, List.set_cons_zero, List.set_cons_succ, ↓us_lFnCourse, r_lFnCourse, hMj.facts, fMg]
        refine m_call (sLeadHead_ok nm st x cs (by omega) hc8' (by omega) _ hoJ.sq) ?_
        rintro rn wn hxn hrn
        rw [ehd] at hrn
        subst hrn
        have hMn := hMj.ext hxn
        simp only [↓vsd, vsn, gW, qd, qv, ev, pick, argE, List.map_cons, List.map_nil, Option.map_some, Option.map_none, zipE, List.cons_append, List.nil_append, ne_eq, eq_self, forall_const, implies_true, if_true, if_false, reduceIte, List.cons.injEq, reduceCtorEq, Nat.reduceEqDiff, List.length_nil, List.length_cons, Nat.reduceAdd, Nat.reduceLT, List.set_cons_zero, List.set_cons_succ, ↓us_lFnCourse, r_lFnCourse, hMn.facts, fMg]
        refine m_call (sRoundsOf_ok st _) ?_
        rintro ro wo hxo hro
        rw [erd] at hro
        subst hro
        simp only [↓vsd, vsn, gW, qd, qv, ev, pick, argE, List.map_cons, List.map_nil, Option.map_some, Option.map_none, zipE, List.cons_append, List.nil_append, ne_eq, eq_self, forall_const, implies_true, if_true, if_false, reduceIte, List.cons.injEq, reduceCtorEq, Nat.reduceEqDiff, List.length_nil, List.length_cons, Nat.reduceAdd, Nat.reduceLT, List.set_cons_zero, List.set_cons_succ, ↓us_lFnCourse, r_lFnCourse]
        refine m_call (iCourseOf_ok hd _) ?_
        rintro rp wp hxp hrp
        rw [ecd] at hrp
        subst hrp
        simp only [↓vsd, vsn, gW, qd, qv, ev, pick, argE, List.map_cons, List.map_nil, Option.map_some, Option.map_none, zipE, List.cons_append, List.nil_append, ne_eq, eq_self, forall_const, implies_true, if_true, if_false, reduceIte, List.cons.injEq, reduceCtorEq, Nat.reduceEqDiff, List.length_nil, List.length_cons, Nat.reduceAdd, Nat.reduceLT, List.set_cons_zero, List.set_cons_succ, ↓us_lFnCourse, r_lFnCourse]
        refine m_call (iCourseOf_ok (roundsL st.toNat) _) ?_
        rintro rq wq hxq hrq
        rw [ecr2] at hrq
        subst hrq
        have c1 : 0 < (tn : Int) := by omega
        have c2 : (tn : Int) < (courseL (roundsL st.toNat)).length := by omega
        simp only [↓vsd, vsn, gW, qd, qv, ev, pick, argE, List.map_cons, List.map_nil, Option.map_some, Option.map_none, zipE, List.cons_append, List.nil_append, ne_eq, eq_self, forall_const, implies_true, if_true, if_false, reduceIte, List.cons.injEq, reduceCtorEq, Nat.reduceEqDiff, List.length_nil, List.length_cons, Nat.reduceAdd, Nat.reduceLT, List.set_cons_zero, List.set_cons_succ, ↓us_lFnCourse, r_lFnCourse, c1, c2]
        have hdl : ((courseL (roundsL st.toNat)).drop tn).length = st.toNat - 1 - tn := by rw [List.length_drop, hcw]
        have htl : ((courseL (roundsL st.toNat)).take tn).length ≤ tn := by rw [List.length_take]; omega
        have htn9 : (tn : Int) ≤ (courseL (roundsL st.toNat)).length := by omega
        exact ⟨⟨by omega, htn9⟩, ⟨by omega, htn9⟩, by omega, hxC.trans (hxn.trans (hxo.trans (hxp.trans hxq))), htt⟩
      · have eT : turnV nm st cs = .tuple ⟨[.int .i64 0, .bool false]⟩ := by rw [turnV, if_neg hT]
        obtain ⟨gb, eR⟩ : ∃ gb, regV nm st cs = .tuple ⟨[.bool false, .bool gb]⟩ := by
          unfold regV
          split
          · rename_i hL
            exact ⟨true, by rw [decide_eq_false (by have : turnN st.toNat (underL (roundsL st.toNat) cs) = 0 := Classical.byContradiction fun h => hT ⟨hL, h⟩
                                                    omega)]⟩
          · exact ⟨false, rfl⟩
        rw [eT] at hrg
        subst hrg
        simp only [↓vsd, vsn, gW, qd, qv, ev, pick, argE, List.map_cons, List.map_nil, Option.map_some, Option.map_none, zipE, List.cons_append, List.nil_append, ne_eq, eq_self, forall_const, implies_true, if_true, if_false, reduceIte, List.cons.injEq, reduceCtorEq, Nat.reduceEqDiff, List.length_nil, List.length_cons, Nat.reduceAdd, Nat.reduceLT, List.set_cons_zero, List.set_cons_succ, ↓us_lFnCourse, r_lFnCourse, hMg.facts, fMg]
        refine m_call (sTurnOf_ok nm st x cs (by omega) hc8' (by omega) _ hoG.sq) ?_
        rintro rh wh hxh hrh
        rw [eT] at hrh
        subst hrh
        have hMh := hMg.ext hxh
        have hoH := hoG.ext hxh
        simp only [↓vsd, vsn, gW, qd, qv, ev, pick, argE, List.map_cons, List.map_nil, Option.map_some, Option.map_none, zipE, List.cons_append, List.nil_append, ne_eq, eq_self, forall_const, implies_true, if_true, if_false, reduceIte, List.cons.injEq, reduceCtorEq, Nat.reduceEqDiff, List.length_nil, List.length_cons, Nat.reduceAdd, Nat.reduceLT, List.set_cons_zero, List.set_cons_succ, ↓us_lFnCourse, r_lFnCourse, hMh.facts, fMg]
        refine m_call (iIsRegular_ok nm st x cs (by omega) hc8' (by omega) _ hoH.sq) ?_
        rintro ri wi hxi hri
        rw [eR] at hri
        subst hri
        have hMi := hMh.ext hxi
        have hoI := hoH.ext hxi
        simp only [↓vsd, vsn, gW, qd, qv, ev, pick, argE, List.map_cons, List.map_nil, Option.map_some, Option.map_none, zipE, List.cons_append, List.nil_append, ne_eq, eq_self, forall_const, implies_true, if_true, if_false, reduceIte, List.cons.injEq, reduceCtorEq, Nat.reduceEqDiff, List.length_nil, List.length_cons, Nat.reduceAdd, Nat.reduceLT, List.set_cons_zero, List.set_cons_succ, ↓us_lFnCourse, r_lFnCourse, hMi.facts, fMg]
        refine m_call (sIsRegular_ok nm st x cs (by omega) hc8' (by omega) _ hoI.sq) ?_
        rintro rj wj hxj hrj
        rw [eR] at hrj
        subst hrj
        have hMj := hMi.ext hxj
        have hoJ := hoI.ext hxj
        have hxC := hxF.trans (hxg.trans (hxh.trans (hxi.trans hxj)))
        simp only [↓vsd, vsn, gW, qd, qv, ev, pick, argE, List.map_cons, List.map_nil, Option.map_some, Option.map_none, zipE, List.cons_append, List.nil_append, ne_eq, eq_self, forall_const, implies_true, if_true, if_false, reduceIte, List.cons.injEq, reduceCtorEq, Nat.reduceEqDiff, List.length_nil, List.length_cons, Nat.reduceAdd, Nat.reduceLT, List.set_cons_zero, List.set_cons_succ, ↓us_lFnCourse, r_lFnCourse]
        exact hxC
end Go.Proofs.Ytjcnmobdlkmaeaa
