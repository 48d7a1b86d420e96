/-
  The call of the law FnNotations.
  Conditions: none.
-/
import Derived.Test.YtfklonhjgkahdaaD57
import Derived.Test.YtfklonhjgkahdaaD3
import Derived.Test.YtfklonhjgkahdaaA36
set_option linter.unusedSimpArgs false
set_option linter.unusedVariables false
set_option linter.defProp false
namespace Go.Proofs.Ytfklonhjgkahdaa
open Go Go.RowKit
section
variable (P : Program) (k : KT) (e : Env) (w : World)
abbrev b4_1 : X := (.cond (.t 39) (.seq (.reg [4] (.c (.q 4 [] (.mv (.c (.bool true)))) .nil)) .ret) .skip)
def t4_1 := b4_1
theorem u4_1 : vcK P t4_1 k e w = vcK P b4_1 k e w := rfl
abbrev b4_2 : X := (.cond (.t 91) (.seq (.reg [4] (.c (.q 4 [] (.mv (.c (.bool false)))) .nil)) .ret) .skip)
def t4_2 := b4_2
theorem u4_2 : vcK P t4_2 k e w = vcK P b4_2 k e w := rfl
abbrev b4_3 : X := (.cond (.t 129) (.seq (.reg [4] (.c (.q 4 [] (.mv (.c (.bool false)))) .nil)) .ret) .skip)
def t4_3 := b4_3
theorem u4_3 : vcK P t4_3 k e w = vcK P b4_3 k e w := rfl
abbrev b4_4 : X := (.cond (.t 153) (.seq (.reg [4] (.c (.q 4 [] (.mv (.c (.bool false)))) .nil)) .ret) .skip)
def t4_4 := b4_4
theorem u4_4 : vcK P t4_4 k e w = vcK P b4_4 k e w := rfl
abbrev b4_5 : X := (.seq (.reg [1, 153] (.c (.q 130 [] (.mv (.t 11))) (.c (.q 131 [] (.len (.t 130))) (.c (.q 132 [] (.bin .leq (.t 131) (.c (.int .i64 200)))) (.c (.q 133 [] (.mv (.t 132))) (.c (.q 134 [(133, true)] (.mv (.t 22))) (.c (.q 135 [(133, true)] (.not (.t 134))) (.c (.q 136 [(133, true)] (.mv (.t 135))) (.c (.q 137 [(136, false), (133, true)] (.mv (.t 20))) (.c (.q 138 [(136, false), (133, true)] (.bin .neq (.t 137) (.c (.int .i64 0)))) (.c (.q 139 [(133, true)] (.pick (.t 136) (.c (.bool true)) (.t 138))) (.c (.q 140 [(133, true)] (.mv (.t 139))) (.c (.q 141 [(140, false), (133, true)] (.mv (.t 19))) (.c (.q 142 [(140, false), (133, true)] (.mv (.t 6))) (.c (.e (some 143) [(140, false), (133, true)] (.call false 10 [(.t 141), (.t 142)])) (.c (.q 144 [(140, false), (133, true)] (.not (.t 143))) (.c (.q 145 [(133, true)] (.pick (.t 140) (.c (.bool true)) (.t 144))) (.c (.q 146 [] (.pick (.t 133) (.t 145) (.c (.bool false)))) (.c (.q 147 [] (.mv (.t 146))) (.c (.q 148 [(147, false)] (.mv (.t 11))) (.c (.q 149 [(147, false)] (.len (.t 148))) (.c (.q 150 [(147, false)] (.mv (.t 7))) (.c (.q 151 [(147, false)] (.len (.t 150))) (.c (.q 152 [(147, false)] (.bin .gtr (.t 149) (.t 151))) (.c (.q 153 [] (.pick (.t 147) (.c (.bool true)) (.t 152))) .nil))))))))))))))))))))))))) t4_4)
def t4_5 := b4_5
theorem u4_5 : vcK P t4_5 k e w = vcK P b4_5 k e w := rfl
abbrev b4_6 : X := (.seq (.seq (.reg [1, 6, 7, 11, 19, 20, 22, 129] (.c (.q 109 [] (.mv (.t 7))) (.c (.q 110 [] (.len (.t 109))) (.c (.q 111 [] (.bin .leq (.t 110) (.c (.int .i64 200)))) (.c (.q 112 [] (.mv (.t 111))) (.c (.q 113 [(112, true)] (.mv (.t 18))) (.c (.q 114 [(112, true)] (.not (.t 113))) (.c (.q 115 [(112, true)] (.mv (.t 114))) (.c (.q 116 [(115, false), (112, true)] (.mv (.t 16))) (.c (.q 117 [(115, false), (112, true)] (.bin .neq (.t 116) (.c (.int .i64 0)))) (.c (.q 118 [(112, true)] (.pick (.t 115) (.c (.bool true)) (.t 117))) (.c (.q 119 [(112, true)] (.mv (.t 118))) (.c (.q 120 [(119, false), (112, true)] (.mv (.t 17))) (.c (.q 121 [(119, false), (112, true)] (.bin .neq (.t 120) (.c (.int .i64 0)))) (.c (.q 122 [(112, true)] (.pick (.t 119) (.c (.bool true)) (.t 121))) (.c (.q 123 [(112, true)] (.mv (.t 122))) (.c (.q 124 [(123, false), (112, true)] (.mv (.t 15))) (.c (.q 125 [(123, false), (112, true)] (.mv (.t 6))) (.c (.e (some 126) [(123, false), (112, true)] (.call false 10 [(.t 124), (.t 125)])) (.c (.q 127 [(123, false), (112, true)] (.not (.t 126))) (.c (.q 128 [(112, true)] (.pick (.t 123) (.c (.bool true)) (.t 127))) (.c (.q 129 [] (.pick (.t 112) (.t 128) (.c (.bool false)))) .nil)))))))))))))))))))))) t4_3) t4_5)
def t4_6 := b4_6
theorem u4_6 : vcK P t4_6 k e w = vcK P b4_6 k e w := rfl
abbrev b4_7 : X := (.seq (.reg [1, 6, 7, 11, 15, 16, 17, 18, 19, 20, 22] (.c (.q 102 [] (.mv (.t 5))) (.c (.q 103 [] (.mv (.t 11))) (.c (.e (some 104) [] (.call false 26 [(.t 102), (.t 103)])) (.c (.q 101 [] (.mv (.t 104))) (.c (.q 105 [] (.ext 0 (.t 101))) (.c (.q 106 [] (.ext 1 (.t 101))) (.c (.q 107 [] (.ext 2 (.t 101))) (.c (.q 108 [] (.ext 3 (.t 101))) (.c (.q 19 [] (.mv (.t 105))) (.c (.q 20 [] (.mv (.t 106))) (.c (.q 21 [] (.mv (.t 107))) (.c (.q 22 [] (.mv (.t 108))) .nil))))))))))))) t4_6)
def t4_7 := b4_7
theorem u4_7 : vcK P t4_7 k e w = vcK P b4_7 k e w := rfl
abbrev b4_8 : X := (.cond (.t 92) (.seq (.reg [1, 5, 6, 7, 11, 15, 16, 17, 18] (.c (.q 94 [] (.mv (.t 5))) (.c (.q 95 [] (.mv (.t 7))) (.c (.e (some 96) [] (.call false 26 [(.t 94), (.t 95)])) (.c (.q 93 [] (.mv (.t 96))) (.c (.q 97 [] (.ext 0 (.t 93))) (.c (.q 98 [] (.ext 1 (.t 93))) (.c (.q 99 [] (.ext 2 (.t 93))) (.c (.q 100 [] (.ext 3 (.t 93))) (.c (.q 15 [] (.mv (.t 97))) (.c (.q 16 [] (.mv (.t 98))) (.c (.q 17 [] (.mv (.t 99))) (.c (.q 18 [] (.mv (.t 100))) .nil))))))))))))) t4_7) .skip)
def t4_8 := b4_8
theorem u4_8 : vcK P t4_8 k e w = vcK P b4_8 k e w := rfl
abbrev b4_9 : X := (.cond (.t 193) (.seq (.reg [4] (.c (.q 4 [] (.mv (.c (.bool false)))) .nil)) .ret) .skip)
def t4_9 := b4_9
theorem u4_9 : vcK P t4_9 k e w = vcK P b4_9 k e w := rfl
abbrev b4_10 : X := (.seq (.reg [4] (.c (.q 207 [] (.mv (.t 34))) (.c (.q 208 [] (.mv (.t 207))) (.c (.q 209 [(208, true)] (.mv (.t 33))) (.c (.q 210 [(208, true)] (.bin .neq (.t 209) (.s []))) (.c (.q 211 [] (.pick (.t 208) (.t 210) (.c (.bool false)))) (.c (.q 212 [] (.mv (.t 211))) (.c (.q 213 [(212, true)] (.mv (.t 36))) (.c (.q 214 [] (.pick (.t 212) (.t 213) (.c (.bool false)))) (.c (.q 215 [] (.mv (.t 214))) (.c (.q 216 [(215, true)] (.mv (.t 35))) (.c (.q 217 [(215, true)] (.mv (.t 25))) (.c (.q 218 [(215, true)] (.lens (.t 217))) (.c (.q 219 [(215, true)] (.bin .eql (.t 216) (.t 218))) (.c (.q 220 [] (.pick (.t 215) (.t 219) (.c (.bool false)))) (.c (.q 4 [] (.mv (.t 220))) .nil)))))))))))))))) .ret)
def t4_10 := b4_10
theorem u4_10 : vcK P t4_10 k e w = vcK P b4_10 k e w := rfl
abbrev b4_11 : X := (.seq (.reg [25, 33, 34, 35, 36] (.c (.q 202 [] (.mv (.t 23))) (.c (.q 203 [] (.mv (.t 24))) (.c (.e (some 204) [] (.call false 19 [(.t 202), (.t 203)])) (.c (.q 201 [] (.mv (.t 204))) (.c (.q 205 [] (.ext 0 (.t 201))) (.c (.q 206 [] (.ext 1 (.t 201))) (.c (.q 35 [] (.mv (.t 205))) (.c (.q 36 [] (.mv (.t 206))) .nil))))))))) t4_10)
def t4_11 := b4_11
theorem u4_11 : vcK P t4_11 k e w = vcK P b4_11 k e w := rfl
abbrev b4_12 : X := (.cond (.t 194) (.seq (.reg [23, 24, 25, 33, 34] (.c (.q 196 [] (.mv (.t 23))) (.c (.q 197 [] (.mv (.t 25))) (.c (.e (some 198) [] (.call false 22 [(.t 196), (.t 197)])) (.c (.q 195 [] (.mv (.t 198))) (.c (.q 199 [] (.ext 0 (.t 195))) (.c (.q 200 [] (.ext 1 (.t 195))) (.c (.q 33 [] (.mv (.t 199))) (.c (.q 34 [] (.mv (.t 200))) .nil))))))))) t4_11) .skip)
def t4_12 := b4_12
theorem u4_12 : vcK P t4_12 k e w = vcK P b4_12 k e w := rfl
abbrev b4_13 : X := (.seq (.reg [4] (.c (.q 4 [] (.mv (.c (.bool true)))) .nil)) .ret)
def t4_13 := b4_13
theorem u4_13 : vcK P t4_13 k e w = vcK P b4_13 k e w := rfl
abbrev b4_14 : X := (.seq (.seq (.reg [23, 24, 25, 194] (.c (.q 194 [] (.mv (.t 28))) .nil)) t4_12) t4_13)
def t4_14 := b4_14
theorem u4_14 : vcK P t4_14 k e w = vcK P b4_14 k e w := rfl
abbrev b4_15 : X := (.seq (.seq (.reg [23, 24, 25, 28, 193] (.c (.q 175 [] (.mv (.t 28))) (.c (.q 176 [] (.mv (.t 32))) (.c (.q 177 [] (.beq true (.t 175) (.t 176))) (.c (.q 178 [] (.mv (.t 177))) (.c (.q 179 [(178, false)] (.mv (.t 26))) (.c (.q 180 [(178, false)] (.mv (.t 30))) (.c (.q 181 [(178, false)] (.bin .neq (.t 179) (.t 180))) (.c (.q 182 [] (.pick (.t 178) (.c (.bool true)) (.t 181))) (.c (.q 183 [] (.mv (.t 182))) (.c (.q 184 [(183, false)] (.mv (.t 27))) (.c (.q 185 [(183, false)] (.mv (.t 31))) (.c (.q 186 [(183, false)] (.bin .neq (.t 184) (.t 185))) (.c (.q 187 [] (.pick (.t 183) (.c (.bool true)) (.t 186))) (.c (.q 188 [] (.mv (.t 187))) (.c (.q 189 [(188, false)] (.mv (.t 25))) (.c (.q 190 [(188, false)] (.mv (.t 29))) (.c (.e (some 191) [(188, false)] (.call false 10 [(.t 189), (.t 190)])) (.c (.q 192 [(188, false)] (.not (.t 191))) (.c (.q 193 [] (.pick (.t 188) (.c (.bool true)) (.t 192))) .nil)))))))))))))))))))) t4_9) t4_14)
def t4_15 := b4_15
theorem u4_15 : vcK P t4_15 k e w = vcK P b4_15 k e w := rfl
abbrev b4_16 : X := (.seq (.reg [23, 24, 25, 26, 27, 28, 29, 30, 31, 32] (.c (.q 168 [] (.mv (.t 23))) (.c (.q 169 [] (.mv (.t 24))) (.c (.e (some 170) [] (.call false 28 [(.t 168), (.t 169)])) (.c (.q 167 [] (.mv (.t 170))) (.c (.q 171 [] (.ext 0 (.t 167))) (.c (.q 172 [] (.ext 1 (.t 167))) (.c (.q 173 [] (.ext 2 (.t 167))) (.c (.q 174 [] (.ext 3 (.t 167))) (.c (.q 29 [] (.mv (.t 171))) (.c (.q 30 [] (.mv (.t 172))) (.c (.q 31 [] (.mv (.t 173))) (.c (.q 32 [] (.mv (.t 174))) .nil))))))))))))) t4_15)
def t4_16 := b4_16
theorem u4_16 : vcK P t4_16 k e w = vcK P b4_16 k e w := rfl
abbrev b4_17 : X := (.seq (.reg [23, 24, 25, 26, 27, 28] (.c (.q 160 [] (.mv (.t 23))) (.c (.q 161 [] (.mv (.t 24))) (.c (.e (some 162) [] (.call false 26 [(.t 160), (.t 161)])) (.c (.q 159 [] (.mv (.t 162))) (.c (.q 163 [] (.ext 0 (.t 159))) (.c (.q 164 [] (.ext 1 (.t 159))) (.c (.q 165 [] (.ext 2 (.t 159))) (.c (.q 166 [] (.ext 3 (.t 159))) (.c (.q 25 [] (.mv (.t 163))) (.c (.q 26 [] (.mv (.t 164))) (.c (.q 27 [] (.mv (.t 165))) (.c (.q 28 [] (.mv (.t 166))) .nil))))))))))))) t4_16)
def t4_17 := b4_17
theorem u4_17 : vcK P t4_17 k e w = vcK P b4_17 k e w := rfl
abbrev b4_18 : X := (.seq (.reg [23, 24] (.c (.q 155 [] (.mv (.t 1))) (.c (.e (some 156) [] (.call false 27 [(.t 155)])) (.c (.q 154 [] (.mv (.t 156))) (.c (.q 157 [] (.ext 0 (.t 154))) (.c (.q 158 [] (.ext 1 (.t 154))) (.c (.q 23 [] (.mv (.t 157))) (.c (.q 24 [] (.mv (.t 158))) .nil)))))))) t4_17)
def t4_18 := b4_18
theorem u4_18 : vcK P t4_18 k e w = vcK P b4_18 k e w := rfl
abbrev b4_19 : X := (.seq (.seq (.reg [1, 5, 6, 7, 11, 92] (.c (.q 92 [] (.mv (.t 8))) .nil)) t4_8) t4_18)
def t4_19 := b4_19
theorem u4_19 : vcK P t4_19 k e w = vcK P b4_19 k e w := rfl
abbrev b4_20 : X := (.seq (.seq (.reg [1, 5, 6, 7, 8, 11, 91] (.c (.q 69 [] (.mv (.t 8))) (.c (.q 70 [] (.mv (.t 10))) (.c (.q 71 [] (.beq true (.t 69) (.t 70))) (.c (.q 72 [] (.mv (.t 71))) (.c (.q 73 [(72, false)] (.mv (.t 7))) (.c (.q 74 [(72, false)] (.mv (.t 9))) (.c (.q 75 [(72, false)] (.bin .neq (.t 73) (.t 74))) (.c (.q 76 [] (.pick (.t 72) (.c (.bool true)) (.t 75))) (.c (.q 77 [] (.mv (.t 76))) (.c (.q 78 [(77, false)] (.mv (.t 12))) (.c (.q 79 [(77, false)] (.mv (.t 14))) (.c (.q 80 [(77, false)] (.beq true (.t 78) (.t 79))) (.c (.q 81 [] (.pick (.t 77) (.c (.bool true)) (.t 80))) (.c (.q 82 [] (.mv (.t 81))) (.c (.q 83 [(82, false)] (.mv (.t 11))) (.c (.q 84 [(82, false)] (.mv (.t 13))) (.c (.q 85 [(82, false)] (.bin .neq (.t 83) (.t 84))) (.c (.q 86 [] (.pick (.t 82) (.c (.bool true)) (.t 85))) (.c (.q 87 [] (.mv (.t 86))) (.c (.q 88 [(87, false)] (.mv (.t 8))) (.c (.q 89 [(87, false)] (.mv (.t 12))) (.c (.q 90 [(87, false)] (.beq true (.t 88) (.t 89))) (.c (.q 91 [] (.pick (.t 87) (.c (.bool true)) (.t 90))) .nil)))))))))))))))))))))))) t4_2) t4_19)
def t4_20 := b4_20
theorem u4_20 : vcK P t4_20 k e w = vcK P b4_20 k e w := rfl
abbrev b4_21 : X := (.seq (.reg [1, 5, 6, 7, 8, 9, 10, 11, 12, 13, 14] (.c (.q 64 [] (.mv (.t 5))) (.c (.q 65 [] (.mv (.t 6))) (.c (.e (some 66) [] (.call false 25 [(.t 64), (.t 65)])) (.c (.q 63 [] (.mv (.t 66))) (.c (.q 67 [] (.ext 0 (.t 63))) (.c (.q 68 [] (.ext 1 (.t 63))) (.c (.q 13 [] (.mv (.t 67))) (.c (.q 14 [] (.mv (.t 68))) .nil))))))))) t4_20)
def t4_21 := b4_21
theorem u4_21 : vcK P t4_21 k e w = vcK P b4_21 k e w := rfl
abbrev b4_22 : X := (.seq (.reg [1, 5, 6, 7, 8, 9, 10, 11, 12] (.c (.q 58 [] (.mv (.t 5))) (.c (.q 59 [] (.mv (.t 6))) (.c (.e (some 60) [] (.call false 24 [(.t 58), (.t 59)])) (.c (.q 57 [] (.mv (.t 60))) (.c (.q 61 [] (.ext 0 (.t 57))) (.c (.q 62 [] (.ext 1 (.t 57))) (.c (.q 11 [] (.mv (.t 61))) (.c (.q 12 [] (.mv (.t 62))) .nil))))))))) t4_21)
def t4_22 := b4_22
theorem u4_22 : vcK P t4_22 k e w = vcK P b4_22 k e w := rfl
abbrev b4_23 : X := (.seq (.reg [1, 5, 6, 7, 8, 9, 10] (.c (.q 52 [] (.mv (.t 5))) (.c (.q 53 [] (.mv (.t 6))) (.c (.e (some 54) [] (.call false 23 [(.t 52), (.t 53)])) (.c (.q 51 [] (.mv (.t 54))) (.c (.q 55 [] (.ext 0 (.t 51))) (.c (.q 56 [] (.ext 1 (.t 51))) (.c (.q 9 [] (.mv (.t 55))) (.c (.q 10 [] (.mv (.t 56))) .nil))))))))) t4_22)
def t4_23 := b4_23
theorem u4_23 : vcK P t4_23 k e w = vcK P b4_23 k e w := rfl
abbrev b4_24 : X := (.seq (.reg [1, 5, 6, 7, 8] (.c (.q 46 [] (.mv (.t 5))) (.c (.q 47 [] (.mv (.t 6))) (.c (.e (some 48) [] (.call false 22 [(.t 46), (.t 47)])) (.c (.q 45 [] (.mv (.t 48))) (.c (.q 49 [] (.ext 0 (.t 45))) (.c (.q 50 [] (.ext 1 (.t 45))) (.c (.q 7 [] (.mv (.t 49))) (.c (.q 8 [] (.mv (.t 50))) .nil))))))))) t4_23)
def t4_24 := b4_24
theorem u4_24 : vcK P t4_24 k e w = vcK P b4_24 k e w := rfl
abbrev b4_25 : X := (.seq (.reg [1, 5, 6] (.c (.q 41 [] (.mv (.t 0))) (.c (.e (some 42) [] (.call false 21 [(.t 41)])) (.c (.q 40 [] (.mv (.t 42))) (.c (.q 43 [] (.ext 0 (.t 40))) (.c (.q 44 [] (.ext 1 (.t 40))) (.c (.q 5 [] (.mv (.t 43))) (.c (.q 6 [] (.mv (.t 44))) .nil)))))))) t4_24)
def t4_25 := b4_25
theorem u4_25 : vcK P t4_25 k e w = vcK P b4_25 k e w := rfl
abbrev b4_26 : X := (.seq (.seq (.reg [0, 1, 39] (.c (.q 37 [] (.mv (.t 0))) (.c (.q 38 [] (.mv (.t 1))) (.c (.e (some 39) [] (.call false 6 [(.t 37), (.t 38)])) .nil)))) t4_1) t4_25)
def t4_26 := b4_26
theorem u4_26 : vcK P t4_26 k e w = vcK P b4_26 k e w := rfl
abbrev b4_0 : X := (.seq (.reg [0, 1] (.c (.q 4 [] (.mv (.c (.bool false)))) .nil)) t4_26)
def x_lFnNotations := b4_0
theorem u4_0 : vcK P x_lFnNotations k e w = vcK P b4_0 k e w := rfl
def r_lFnNotations : List XO := [(.mv (.t 4))]
theorem c_lFnNotations : convF Try.prog [38, 39, 41, 42, 49, 54, 55, 57, 58, 59, 79, 81, 84, 87, 139] Try.f4 [([0, 1], []), ([0, 1, 39], []), ([4], []), ([1, 5, 6], []), ([1, 5, 6, 7, 8], []), ([1, 5, 6, 7, 8, 9, 10], []), ([1, 5, 6, 7, 8, 9, 10, 11, 12], []), ([1, 5, 6, 7, 8, 9, 10, 11, 12, 13, 14], []), ([1, 5, 6, 7, 8, 11, 91], []), ([4], []), ([1, 5, 6, 7, 11, 92], []), ([1, 5, 6, 7, 11, 15, 16, 17, 18], []), ([1, 6, 7, 11, 15, 16, 17, 18, 19, 20, 22], []), ([1, 6, 7, 11, 19, 20, 22, 129], []), ([4], []), ([1, 153], []), ([4], []), ([23, 24], []), ([23, 24, 25, 26, 27, 28], []), ([23, 24, 25, 26, 27, 28, 29, 30, 31, 32], []), ([23, 24, 25, 28, 193], []), ([4], []), ([23, 24, 25, 194], []), ([23, 24, 25, 33, 34], []), ([25, 33, 34, 35, 36], []), ([4], []), ([4], [])] = some (x_lFnNotations, r_lFnNotations) := by kernel_rfl
def us_lFnNotations :=  (aI (aI (aI (aI @u4_0 (aI @u4_1 @u4_2)) (aI @u4_3 (aI @u4_4 @u4_5))) (aI (aI @u4_6 (aI @u4_7 @u4_8)) (aI (aI @u4_9 @u4_10) (aI @u4_11 @u4_12)))) (aI (aI (aI @u4_13 (aI @u4_14 @u4_15)) (aI (aI @u4_16 @u4_17) (aI @u4_18 @u4_19))) (aI (aI @u4_20 (aI @u4_21 @u4_22)) (aI (aI @u4_23 @u4_24) (aI @u4_25 @u4_26)))))
end

set_option maxHeartbeats 4000000 in
theorem lFnNotations_ok (v u : Value) (code more : List UInt8) (hcl : code.length ≤ 9223372036854775807) (hml : more.length ≤ 9223372036854775807) (w : World) (h : Sq fU 1 w v code) (h' : Sq fU 1 w u more) : Fn 4 [v, u] w (fun r _ => r = .bool true) := by
  (refine callsV_of mix Try.func4 c_lFnNotations ?_; simp only [↓vsd, vsn, gW, qd, qv, ev, pick, argE, zipE, ne_eq, eq_self, forall_const, implies_true, if_true, if_false, reduceIte, reduceCtorEq, Nat.reduceEqDiff, Nat.reduceAdd, Nat.reduceLT, ↓us_lFnNotations, r_lFnNotations])
  refine m_call (lbig_ok v u code more hcl hml _ h h') ?_
  rintro _ w0 hx0 rfl
  simp only [↓vsd, vsn, gW, qd, qv, ev, pick, argE, zipE, ne_eq, eq_self, forall_const, implies_true, if_true, if_false, reduceIte, reduceCtorEq, Nat.reduceEqDiff, Nat.reduceAdd, Nat.reduceLT, ↓us_lFnNotations, r_lFnNotations]
  refine ⟨fun _ => hx0, fun hsm => ?_⟩
  have hlen : code.length ≤ 1048576 ∧ more.length ≤ 1048576 := by omega
  refine m_call (sDrawNotationText_ok v code hlen.1 _ (h.ext hx0)) ?_
  rintro _ w1 hx1 ⟨n, y, l, rfl, hq, hl1, hs1⟩
  have hs : ∀ c ∈ l, c.length ≤ 1000 := fun c hc => by have := hs1 c hc; omega
  simp only [↓vsd, vsn, gW, qd, qv, ev, pick, argE, zipE, ne_eq, eq_self, forall_const, implies_true, if_true, if_false, reduceIte, reduceCtorEq, Nat.reduceEqDiff, Nat.reduceAdd, Nat.reduceLT, ↓us_lFnNotations, r_lFnNotations]
  refine m_call (iNotationText_ok n y l hs (by omega) _ hq) ?_
  rintro r2 w2 hx2 hr2
  by_cases hL : IsList n l
  · obtain rfl := hr2.1 hL
    simp only [↓vsd, vsn, gW, qd, qv, ev, pick, argE, zipE, ne_eq, eq_self, forall_const, implies_true, if_true, if_false, reduceIte, reduceCtorEq, Nat.reduceEqDiff, Nat.reduceAdd, Nat.reduceLT, ↓us_lFnNotations, r_lFnNotations]
    refine m_call (sNotationText_ok n y l hs (by omega) _ (hq.ext hx2)) ?_
    rintro r3 w3 hx3 hr3
    obtain rfl := hr3.1 hL
    simp only [↓vsd, vsn, gW, qd, qv, ev, pick, argE, zipE, ne_eq, eq_self, forall_const, implies_true, if_true, if_false, reduceIte, reduceCtorEq, Nat.reduceEqDiff, Nat.reduceAdd, Nat.reduceLT, ↓us_lFnNotations, r_lFnNotations]
    refine m_call (iShortNotation_ok n y l hs (by omega) _ ((hq.ext hx2).ext hx3)) ?_
    rintro r4 w4 hx4 hr4
    obtain rfl := hr4.1 hL
    simp only [↓vsd, vsn, gW, qd, qv, ev, pick, argE, zipE, ne_eq, eq_self, forall_const, implies_true, if_true, if_false, reduceIte, reduceCtorEq, Nat.reduceEqDiff, Nat.reduceAdd, Nat.reduceLT, ↓us_lFnNotations, r_lFnNotations]
    refine m_call (sShortNotation_ok n y l hs (by omega) _ (((hq.ext hx2).ext hx3).ext hx4)) ?_
    rintro r5 w5 hx5 hr5
    obtain rfl := hr5.1 hL
    have hz := txt_small' hs
    have hz2 := short_len hL.2
    simp only [↓vsd, vsn, gW, qd, qv, ev, pick, argE, zipE, ne_eq, eq_self, forall_const, implies_true, if_true, if_false, reduceIte, reduceCtorEq, Nat.reduceEqDiff, Nat.reduceAdd, Nat.reduceLT, ↓us_lFnNotations, r_lFnNotations]
    refine m_call (iReadNotation_ok n (txtL l) (by omega) _) ?_
    rintro _ w6 hx6 ⟨x6, rfl, ho6⟩
    simp only [↓vsd, vsn, gW, qd, qv, ev, pick, argE, zipE, ne_eq, eq_self, forall_const, implies_true, if_true, if_false, reduceIte, reduceCtorEq, Nat.reduceEqDiff, Nat.reduceAdd, Nat.reduceLT, ↓us_lFnNotations, r_lFnNotations, v_e4, d_e4]
    refine m_call (iReadNotation_ok n (shortL l) (by omega) _) ?_
    rintro _ w7 hx7 ⟨x7, rfl, ho7⟩
    have hlw : (shortL l).length ≤ (txtL l).length := hz2
    have hlwI : ¬ ((txtL l).length : Int) < (shortL l).length := by omega
    have hx07 := ((((((hx0.trans hx1).trans hx2).trans hx3).trans hx4).trans hx5).trans hx6).trans hx7
    have hq7 := ((((((hq.ext hx2).ext hx3).ext hx4).ext hx5).ext hx6)).ext hx7
    have e1 : (txtL l).length ≤ 200 → readN n (txtL l) = (l, 0, 0, true) := fun h2 => by
      obtain ⟨m, rfl⟩ : ∃ m : Nat, n = m := ⟨n.toNat, by have := list_stage hL; omega⟩
      exact read_text hL h2
    have e2 : (shortL l).length ≤ 200 → readN n (shortL l) = (l, 0, 0, true) := fun h2 => by
      obtain ⟨m, rfl⟩ : ∃ m : Nat, n = m := ⟨n.toNat, by have := list_stage hL; omega⟩
      exact read_short hL h2
    have o6 : (txtL l).length ≤ 200 → Own fS 1 9 w5.heap.size w6 x6 l := fun h2 => by rw [e1 h2] at ho6; exact ho6
    have o7 : (shortL l).length ≤ 200 → Own fS 1 9 w6.heap.size w7 x7 l := fun h2 => by rw [e2 h2] at ho7; exact ho7
    clear ho6 ho7
    by_cases c2 : (shortL l).length ≤ 200
    · have c2I : ((shortL l).length : Int) ≤ 200 := by omega
      have o7 := o7 c2
      have e2 := e2 c2
      by_cases c1 : (txtL l).length ≤ 200
      · have c1I : ((txtL l).length : Int) ≤ 200 := by omega
        have o6 := o6 c1
        have e1 := e1 c1
        simp only [↓vsd, vsn, gW, qd, qv, ev, pick, argE, zipE, ne_eq, eq_self, forall_const, implies_true, if_true, if_false, reduceIte, reduceCtorEq, Nat.reduceEqDiff, Nat.reduceAdd, Nat.reduceLT, ↓us_lFnNotations, r_lFnNotations, v_e4, d_e4, c1I, c2I, e1, e2, hlwI]
        refine m_call (lsameTexts_ok x6 y l l _ (o6.sq.ext hx7) hq7 (by omega)) ?_
        rintro _ w8 hx8 rfl
        simp only [↓vsd, vsn, gW, qd, qv, ev, pick, argE, zipE, ne_eq, eq_self, forall_const, implies_true, if_true, if_false, reduceIte, reduceCtorEq, Nat.reduceEqDiff, Nat.reduceAdd, Nat.reduceLT, ↓us_lFnNotations, r_lFnNotations, v_e4, d_e4, c1I, c2I, e1, e2, hlwI]
        refine m_call (lsameTexts_ok x7 y l l _ (o7.sq.ext hx8) (hq7.ext hx8) (by omega)) ?_
        rintro _ w9 hx9 rfl
        simp only [↓vsd, vsn, gW, qd, qv, ev, pick, argE, zipE, ne_eq, eq_self, forall_const, implies_true, if_true, if_false, reduceIte, reduceCtorEq, Nat.reduceEqDiff, Nat.reduceAdd, Nat.reduceLT, ↓us_lFnNotations, r_lFnNotations, v_e4, d_e4, c1I, c2I, e1, e2, hlwI]
        have hxB := (hx07.trans hx8).trans hx9
        refine m_call (sDrawReadNotation_ok u more hlen.2 _ (h'.ext hxB)) ?_
        rintro _ wa hxa ⟨m, t, rfl, ht⟩
        simp only [↓vsd, vsn, gW, qd, qv, ev, pick, argE, zipE, ne_eq, eq_self, forall_const, implies_true, if_true, if_false, reduceIte, reduceCtorEq, Nat.reduceEqDiff, Nat.reduceAdd, Nat.reduceLT, ↓us_lFnNotations, r_lFnNotations]
        refine m_call (iReadNotation_ok m t (by omega) _) ?_
        rintro _ wb hxb ⟨x1, rfl, ho1⟩
        simp only [↓vsd, vsn, gW, qd, qv, ev, pick, argE, zipE, ne_eq, eq_self, forall_const, implies_true, if_true, if_false, reduceIte, reduceCtorEq, Nat.reduceEqDiff, Nat.reduceAdd, Nat.reduceLT, ↓us_lFnNotations, r_lFnNotations, v_e4, d_e4]
        refine m_call (sReadNotation_ok m t (by omega) _) ?_
        rintro _ wc hxc ⟨x2, rfl, ho2⟩
        have hgood := @readN_good m t
        have hbad := @readN_bad m t
        have hl40 : (readN m t).1.length ≤ 40 := by
          by_cases hr : (readN m t).2.2.2 = true
          · exact (hgood hr).2.1.2
          · rw [hbad hr]; simp
        simp only [↓vsd, vsn, gW, qd, qv, ev, pick, argE, zipE, ne_eq, eq_self, forall_const, implies_true, if_true, if_false, reduceIte, reduceCtorEq, Nat.reduceEqDiff, Nat.reduceAdd, Nat.reduceLT, ↓us_lFnNotations, r_lFnNotations, v_e4, d_e4]
        refine m_call (lsameTexts_ok x1 x2 _ _ _ (ho1.sq.ext hxc) ho2.sq (by omega)) ?_
        rintro _ wd hxd rfl
        have hx4 := (((hxB.trans hxa).trans hxb).trans hxc).trans hxd
        have hq4 := (ho1.sq.ext hxc).ext hxd
        by_cases hr : (readN m t).2.2.2 = true
        · obtain ⟨hst, hlen2, hch, -, -⟩ := hgood hr
          have hL : IsList m (readN m t).1 := ⟨hlen2, hch⟩
          simp only [↓vsd, vsn, gW, qd, qv, ev, pick, argE, zipE, ne_eq, eq_self, forall_const, implies_true, if_true, if_false, reduceIte, reduceCtorEq, Nat.reduceEqDiff, Nat.reduceAdd, Nat.reduceLT, ↓us_lFnNotations, r_lFnNotations, v_e4, d_e4, hr]
          refine m_call (iNotationText_ok m x1 _ (fun c hc => by have := change_len (hch c hc); omega) (by omega) _ hq4) ?_
          rintro r5 we hxe hr5
          obtain rfl := hr5.1 hL
          have hne := txtL_ne hch hlen2.1
          simp only [↓vsd, vsn, gW, qd, qv, ev, pick, argE, zipE, ne_eq, eq_self, forall_const, implies_true, if_true, if_false, reduceIte, reduceCtorEq, Nat.reduceEqDiff, Nat.reduceAdd, Nat.reduceLT, ↓us_lFnNotations, r_lFnNotations, v_e4, d_e4, hr]
          refine m_call (iCountChanges_ok m t (by omega) _) ?_
          rintro _ wf hxf rfl
          rw [cntV]
          have hq6 := (hq4.ext hxe).ext hxf
          have hx6 := (hx4.trans hxe).trans hxf
          simp only [↓vsd, vsn, gW, qd, qv, ev, pick, argE, zipE, ne_eq, eq_self, forall_const, implies_true, if_true, if_false, reduceIte, reduceCtorEq, Nat.reduceEqDiff, Nat.reduceAdd, Nat.reduceLT, ↓us_lFnNotations, r_lFnNotations, v_e4, d_e4, hr, hq6.facts, hne]
          exact hx6
        · simp only [↓vsd, vsn, gW, qd, qv, ev, pick, argE, zipE, ne_eq, eq_self, forall_const, implies_true, if_true, if_false, reduceIte, reduceCtorEq, Nat.reduceEqDiff, Nat.reduceAdd, Nat.reduceLT, ↓us_lFnNotations, r_lFnNotations, v_e4, d_e4, hr]
          exact hx4
      · have c1I : ¬ ((txtL l).length : Int) ≤ 200 := by omega
        simp only [↓vsd, vsn, gW, qd, qv, ev, pick, argE, zipE, ne_eq, eq_self, forall_const, implies_true, if_true, if_false, reduceIte, reduceCtorEq, Nat.reduceEqDiff, Nat.reduceAdd, Nat.reduceLT, ↓us_lFnNotations, r_lFnNotations, v_e4, d_e4, c1I, c2I, e2, hlwI]
        refine m_call (lsameTexts_ok x7 y l l _ o7.sq hq7 (by omega)) ?_
        rintro _ w8 hx8 rfl
        simp only [↓vsd, vsn, gW, qd, qv, ev, pick, argE, zipE, ne_eq, eq_self, forall_const, implies_true, if_true, if_false, reduceIte, reduceCtorEq, Nat.reduceEqDiff, Nat.reduceAdd, Nat.reduceLT, ↓us_lFnNotations, r_lFnNotations, v_e4, d_e4, c1I, c2I, e2, hlwI]
        have hxB := hx07.trans hx8
        refine m_call (sDrawReadNotation_ok u more hlen.2 _ (h'.ext hxB)) ?_
        rintro _ wa hxa ⟨m, t, rfl, ht⟩
        simp only [↓vsd, vsn, gW, qd, qv, ev, pick, argE, zipE, ne_eq, eq_self, forall_const, implies_true, if_true, if_false, reduceIte, reduceCtorEq, Nat.reduceEqDiff, Nat.reduceAdd, Nat.reduceLT, ↓us_lFnNotations, r_lFnNotations]
        refine m_call (iReadNotation_ok m t (by omega) _) ?_
        rintro _ wb hxb ⟨x1, rfl, ho1⟩
        simp only [↓vsd, vsn, gW, qd, qv, ev, pick, argE, zipE, ne_eq, eq_self, forall_const, implies_true, if_true, if_false, reduceIte, reduceCtorEq, Nat.reduceEqDiff, Nat.reduceAdd, Nat.reduceLT, ↓us_lFnNotations, r_lFnNotations, v_e4, d_e4]
        refine m_call (sReadNotation_ok m t (by omega) _) ?_
        rintro _ wc hxc ⟨x2, rfl, ho2⟩
        have hgood := @readN_good m t
        have hbad := @readN_bad m t
        have hl40 : (readN m t).1.length ≤ 40 := by
          by_cases hr : (readN m t).2.2.2 = true
          · exact (hgood hr).2.1.2
          · rw [hbad hr]; simp
        simp only [↓vsd, vsn, gW, qd, qv, ev, pick, argE, zipE, ne_eq, eq_self, forall_const, implies_true, if_true, if_false, reduceIte, reduceCtorEq, Nat.reduceEqDiff, Nat.reduceAdd, Nat.reduceLT, ↓us_lFnNotations, r_lFnNotations, v_e4, d_e4]
        refine m_call (lsameTexts_ok x1 x2 _ _ _ (ho1.sq.ext hxc) ho2.sq (by omega)) ?_
        rintro _ wd hxd rfl
        have hx4 := (((hxB.trans hxa).trans hxb).trans hxc).trans hxd
        have hq4 := (ho1.sq.ext hxc).ext hxd
        by_cases hr : (readN m t).2.2.2 = true
        · obtain ⟨hst, hlen2, hch, -, -⟩ := hgood hr
          have hL : IsList m (readN m t).1 := ⟨hlen2, hch⟩
          simp only [↓vsd, vsn, gW, qd, qv, ev, pick, argE, zipE, ne_eq, eq_self, forall_const, implies_true, if_true, if_false, reduceIte, reduceCtorEq, Nat.reduceEqDiff, Nat.reduceAdd, Nat.reduceLT, ↓us_lFnNotations, r_lFnNotations, v_e4, d_e4, hr]
          refine m_call (iNotationText_ok m x1 _ (fun c hc => by have := change_len (hch c hc); omega) (by omega) _ hq4) ?_
          rintro r5 we hxe hr5
          obtain rfl := hr5.1 hL
          have hne := txtL_ne hch hlen2.1
          simp only [↓vsd, vsn, gW, qd, qv, ev, pick, argE, zipE, ne_eq, eq_self, forall_const, implies_true, if_true, if_false, reduceIte, reduceCtorEq, Nat.reduceEqDiff, Nat.reduceAdd, Nat.reduceLT, ↓us_lFnNotations, r_lFnNotations, v_e4, d_e4, hr]
          refine m_call (iCountChanges_ok m t (by omega) _) ?_
          rintro _ wf hxf rfl
          rw [cntV]
          have hq6 := (hq4.ext hxe).ext hxf
          have hx6 := (hx4.trans hxe).trans hxf
          simp only [↓vsd, vsn, gW, qd, qv, ev, pick, argE, zipE, ne_eq, eq_self, forall_const, implies_true, if_true, if_false, reduceIte, reduceCtorEq, Nat.reduceEqDiff, Nat.reduceAdd, Nat.reduceLT, ↓us_lFnNotations, r_lFnNotations, v_e4, d_e4, hr, hq6.facts, hne]
          exact hx6
        · simp only [↓vsd, vsn, gW, qd, qv, ev, pick, argE, zipE, ne_eq, eq_self, forall_const, implies_true, if_true, if_false, reduceIte, reduceCtorEq, Nat.reduceEqDiff, Nat.reduceAdd, Nat.reduceLT, ↓us_lFnNotations, r_lFnNotations, v_e4, d_e4, hr]
          exact hx4
    · have c2I : ¬ ((shortL l).length : Int) ≤ 200 := by omega
      have c1I : ¬ ((txtL l).length : Int) ≤ 200 := by omega
      simp only [↓vsd, vsn, gW, qd, qv, ev, pick, argE, zipE, ne_eq, eq_self, forall_const, implies_true, if_true, if_false, reduceIte, reduceCtorEq, Nat.reduceEqDiff, Nat.reduceAdd, Nat.reduceLT, ↓us_lFnNotations, r_lFnNotations, v_e4, d_e4, c1I, c2I, hlwI]
      have hxB := hx07
      refine m_call (sDrawReadNotation_ok u more hlen.2 _ (h'.ext hxB)) ?_
      rintro _ wa hxa ⟨m, t, rfl, ht⟩
      simp only [↓vsd, vsn, gW, qd, qv, ev, pick, argE, zipE, ne_eq, eq_self, forall_const, implies_true, if_true, if_false, reduceIte, reduceCtorEq, Nat.reduceEqDiff, Nat.reduceAdd, Nat.reduceLT, ↓us_lFnNotations, r_lFnNotations]
      refine m_call (iReadNotation_ok m t (by omega) _) ?_
      rintro _ wb hxb ⟨x1, rfl, ho1⟩
      simp only [↓vsd, vsn, gW, qd, qv, ev, pick, argE, zipE, ne_eq, eq_self, forall_const, implies_true, if_true, if_false, reduceIte, reduceCtorEq, Nat.reduceEqDiff, Nat.reduceAdd, Nat.reduceLT, ↓us_lFnNotations, r_lFnNotations, v_e4, d_e4]
      refine m_call (sReadNotation_ok m t (by omega) _) ?_
      rintro _ wc hxc ⟨x2, rfl, ho2⟩
      have hgood := @readN_good m t
      have hbad := @readN_bad m t
      have hl40 : (readN m t).1.length ≤ 40 := by
        by_cases hr : (readN m t).2.2.2 = true
        · exact (hgood hr).2.1.2
        · rw [hbad hr]; simp
      simp only [↓vsd, vsn, gW, qd, qv, ev, pick, argE, zipE, ne_eq, eq_self, forall_const, implies_true, if_true, if_false, reduceIte, reduceCtorEq, Nat.reduceEqDiff, Nat.reduceAdd, Nat.reduceLT, ↓us_lFnNotations, r_lFnNotations, v_e4, d_e4]
      refine m_call (lsameTexts_ok x1 x2 _ _ _ (ho1.sq.ext hxc) ho2.sq (by omega)) ?_
      rintro _ wd hxd rfl
      have hx4 := (((hxB.trans hxa).trans hxb).trans hxc).trans hxd
      have hq4 := (ho1.sq.ext hxc).ext hxd
      by_cases hr : (readN m t).2.2.2 = true
      · obtain ⟨hst, hlen2, hch, -, -⟩ := hgood hr
        have hL : IsList m (readN m t).1 := ⟨hlen2, hch⟩
        simp only [↓vsd, vsn, gW, qd, qv, ev, pick, argE, zipE, ne_eq, eq_self, forall_const, implies_true, if_true, if_false, reduceIte, reduceCtorEq, Nat.reduceEqDiff, Nat.reduceAdd, Nat.reduceLT, ↓us_lFnNotations, r_lFnNotations, v_e4, d_e4, hr]
        refine m_call (iNotationText_ok m x1 _ (fun c hc => by have := change_len (hch c hc); omega) (by omega) _ hq4) ?_
        rintro r5 we hxe hr5
        obtain rfl := hr5.1 hL
        have hne := txtL_ne hch hlen2.1
        simp only [↓vsd, vsn, gW, qd, qv, ev, pick, argE, zipE, ne_eq, eq_self, forall_const, implies_true, if_true, if_false, reduceIte, reduceCtorEq, Nat.reduceEqDiff, Nat.reduceAdd, Nat.reduceLT, ↓us_lFnNotations, r_lFnNotations, v_e4, d_e4, hr]
        refine m_call (iCountChanges_ok m t (by omega) _) ?_
        rintro _ wf hxf rfl
        rw [cntV]
        have hq6 := (hq4.ext hxe).ext hxf
        have hx6 := (hx4.trans hxe).trans hxf
        simp only [↓vsd, vsn, gW, qd, qv, ev, pick, argE, zipE, ne_eq, eq_self, forall_const, implies_true, if_true, if_false, reduceIte, reduceCtorEq, Nat.reduceEqDiff, Nat.reduceAdd, Nat.reduceLT, ↓us_lFnNotations, r_lFnNotations, v_e4, d_e4, hr, hq6.facts, hne]
        exact hx6
      · simp only [↓vsd, vsn, gW, qd, qv, ev, pick, argE, zipE, ne_eq, eq_self, forall_const, implies_true, if_true, if_false, reduceIte, reduceCtorEq, Nat.reduceEqDiff, Nat.reduceAdd, Nat.reduceLT, ↓us_lFnNotations, r_lFnNotations, v_e4, d_e4, hr]
        exact hx4
  · obtain rfl := hr2.2 hL
    simp only [↓vsd, vsn, gW, qd, qv, ev, pick, argE, zipE, ne_eq, eq_self, forall_const, implies_true, if_true, if_false, reduceIte, reduceCtorEq, Nat.reduceEqDiff, Nat.reduceAdd, Nat.reduceLT, ↓us_lFnNotations, r_lFnNotations]
    refine m_call (sNotationText_ok n y l hs (by omega) _ (hq.ext hx2)) ?_
    rintro r3 w3 hx3 hr3
    obtain rfl := hr3.2 hL
    simp only [↓vsd, vsn, gW, qd, qv, ev, pick, argE, zipE, ne_eq, eq_self, forall_const, implies_true, if_true, if_false, reduceIte, reduceCtorEq, Nat.reduceEqDiff, Nat.reduceAdd, Nat.reduceLT, ↓us_lFnNotations, r_lFnNotations]
    refine m_call (iShortNotation_ok n y l hs (by omega) _ ((hq.ext hx2).ext hx3)) ?_
    rintro r4 w4 hx4 hr4
    obtain rfl := hr4.2 hL
    simp only [↓vsd, vsn, gW, qd, qv, ev, pick, argE, zipE, ne_eq, eq_self, forall_const, implies_true, if_true, if_false, reduceIte, reduceCtorEq, Nat.reduceEqDiff, Nat.reduceAdd, Nat.reduceLT, ↓us_lFnNotations, r_lFnNotations]
    refine m_call (sShortNotation_ok n y l hs (by omega) _ (((hq.ext hx2).ext hx3).ext hx4)) ?_
    rintro r5 w5 hx5 hr5
    obtain rfl := hr5.2 hL
    simp only [↓vsd, vsn, gW, qd, qv, ev, pick, argE, zipE, ne_eq, eq_self, forall_const, implies_true, if_true, if_false, reduceIte, reduceCtorEq, Nat.reduceEqDiff, Nat.reduceAdd, Nat.reduceLT, ↓us_lFnNotations, r_lFnNotations]
    have hxB := ((((hx0.trans hx1).trans hx2).trans hx3).trans hx4).trans hx5
    refine m_call (sDrawReadNotation_ok u more hlen.2 _ (h'.ext hxB)) ?_
    rintro _ wa hxa ⟨m, t, rfl, ht⟩
    simp only [↓vsd, vsn, gW, qd, qv, ev, pick, argE, zipE, ne_eq, eq_self, forall_const, implies_true, if_true, if_false, reduceIte, reduceCtorEq, Nat.reduceEqDiff, Nat.reduceAdd, Nat.reduceLT, ↓us_lFnNotations, r_lFnNotations]
    refine m_call (iReadNotation_ok m t (by omega) _) ?_
    rintro _ wb hxb ⟨x1, rfl, ho1⟩
    simp only [↓vsd, vsn, gW, qd, qv, ev, pick, argE, zipE, ne_eq, eq_self, forall_const, implies_true, if_true, if_false, reduceIte, reduceCtorEq, Nat.reduceEqDiff, Nat.reduceAdd, Nat.reduceLT, ↓us_lFnNotations, r_lFnNotations, v_e4, d_e4]
    refine m_call (sReadNotation_ok m t (by omega) _) ?_
    rintro _ wc hxc ⟨x2, rfl, ho2⟩
    have hgood := @readN_good m t
    have hbad := @readN_bad m t
    have hl40 : (readN m t).1.length ≤ 40 := by
      by_cases hr : (readN m t).2.2.2 = true
      · exact (hgood hr).2.1.2
      · rw [hbad hr]; simp
    simp only [↓vsd, vsn, gW, qd, qv, ev, pick, argE, zipE, ne_eq, eq_self, forall_const, implies_true, if_true, if_false, reduceIte, reduceCtorEq, Nat.reduceEqDiff, Nat.reduceAdd, Nat.reduceLT, ↓us_lFnNotations, r_lFnNotations, v_e4, d_e4]
    refine m_call (lsameTexts_ok x1 x2 _ _ _ (ho1.sq.ext hxc) ho2.sq (by omega)) ?_
    rintro _ wd hxd rfl
    have hx4 := (((hxB.trans hxa).trans hxb).trans hxc).trans hxd
    have hq4 := (ho1.sq.ext hxc).ext hxd
    by_cases hr : (readN m t).2.2.2 = true
    · obtain ⟨hst, hlen2, hch, -, -⟩ := hgood hr
      have hL : IsList m (readN m t).1 := ⟨hlen2, hch⟩
      simp only [↓vsd, vsn, gW, qd, qv, ev, pick, argE, zipE, ne_eq, eq_self, forall_const, implies_true, if_true, if_false, reduceIte, reduceCtorEq, Nat.reduceEqDiff, Nat.reduceAdd, Nat.reduceLT, ↓us_lFnNotations, r_lFnNotations, v_e4, d_e4, hr]
      refine m_call (iNotationText_ok m x1 _ (fun c hc => by have := change_len (hch c hc); omega) (by omega) _ hq4) ?_
      rintro r5 we hxe hr5
      obtain rfl := hr5.1 hL
      have hne := txtL_ne hch hlen2.1
      simp only [↓vsd, vsn, gW, qd, qv, ev, pick, argE, zipE, ne_eq, eq_self, forall_const, implies_true, if_true, if_false, reduceIte, reduceCtorEq, Nat.reduceEqDiff, Nat.reduceAdd, Nat.reduceLT, ↓us_lFnNotations, r_lFnNotations, v_e4, d_e4, hr]
      refine m_call (iCountChanges_ok m t (by omega) _) ?_
      rintro _ wf hxf rfl
      rw [cntV]
      have hq6 := (hq4.ext hxe).ext hxf
      have hx6 := (hx4.trans hxe).trans hxf
      simp only [↓vsd, vsn, gW, qd, qv, ev, pick, argE, zipE, ne_eq, eq_self, forall_const, implies_true, if_true, if_false, reduceIte, reduceCtorEq, Nat.reduceEqDiff, Nat.reduceAdd, Nat.reduceLT, ↓us_lFnNotations, r_lFnNotations, v_e4, d_e4, hr, hq6.facts, hne]
      exact hx6
    · simp only [↓vsd, vsn, gW, qd, qv, ev, pick, argE, zipE, ne_eq, eq_self, forall_const, implies_true, if_true, if_false, reduceIte, reduceCtorEq, Nat.reduceEqDiff, Nat.reduceAdd, Nat.reduceLT, ↓us_lFnNotations, r_lFnNotations, v_e4, d_e4, hr]
      exact hx4
end Go.Proofs.Ytfklonhjgkahdaa
