/-
  The call of the law FnHalves.
  Conditions: none.
-/
import Derived.Test.YtfklonhjgkahdaaD57
import Derived.Test.YtfklonhjgkahdaaD3
import Derived.Test.YtfklonhjgkahdaaA36
set_option linter.unusedSimpArgs false
set_option linter.unusedVariables false
set_option linter.defProp false
namespace Go.Proofs.Ytfklonhjgkahdaa
open Go Go.RowKit
section
variable (P : Program) (k : KT) (e : Env) (w : World)
abbrev b3_1 : X := (.cond (.t 37) (.seq (.reg [4] (.c (.q 4 [] (.mv (.c (.bool true)))) .nil)) .ret) .skip)
def t3_1 := b3_1
theorem u3_1 : vcK P t3_1 k e w = vcK P b3_1 k e w := rfl
abbrev b3_2 : X := (.cond (.t 71) (.seq (.reg [4] (.c (.q 4 [] (.mv (.c (.bool false)))) .nil)) .ret) .skip)
def t3_2 := b3_2
theorem u3_2 : vcK P t3_2 k e w = vcK P b3_2 k e w := rfl
abbrev b3_3 : X := (.cond (.t 98) (.seq (.reg [4] (.c (.q 4 [] (.mv (.c (.bool false)))) .nil)) .ret) .skip)
def t3_3 := b3_3
theorem u3_3 : vcK P t3_3 k e w = vcK P b3_3 k e w := rfl
abbrev b3_4 : X := (.seq (.reg [1, 98] (.c (.q 83 [] (.mv (.t 14))) (.c (.q 84 [] (.not (.t 83))) (.c (.q 85 [] (.mv (.t 84))) (.c (.q 86 [(85, false)] (.mv (.t 16))) (.c (.q 87 [(85, false)] (.not (.t 86))) (.c (.q 88 [] (.pick (.t 85) (.c (.bool true)) (.t 87))) (.c (.q 89 [] (.mv (.t 88))) (.c (.e (some 90) [(89, false)] (.bsl 9 1 [])) (.c (.q 91 [(89, false)] (.mv (.t 13))) (.c (.e (some 92) [(89, false)] (.app 24 9 1 16 [(S [])] 24 (.t 90) (.t 91))) (.c (.q 93 [(89, false)] (.mv (.t 15))) (.c (.e (some 94) [(89, false)] (.app 24 9 1 16 [(S [])] 24 (.t 92) (.t 93))) (.c (.q 95 [(89, false)] (.mv (.t 6))) (.c (.e (some 96) [(89, false)] (.call false 10 [(.t 94), (.t 95)])) (.c (.q 97 [(89, false)] (.not (.t 96))) (.c (.q 98 [] (.pick (.t 89) (.c (.bool true)) (.t 97))) .nil))))))))))))))))) t3_3)
def t3_4 := b3_4
theorem u3_4 : vcK P t3_4 k e w = vcK P b3_4 k e w := rfl
abbrev b3_5 : X := (.seq (.reg [1, 6, 13, 14, 15, 16] (.c (.q 79 [] (.mv (.t 8))) (.c (.e (some 80) [] (.call false 11 [(.t 79)])) (.c (.q 78 [] (.mv (.t 80))) (.c (.q 81 [] (.ext 0 (.t 78))) (.c (.q 82 [] (.ext 1 (.t 78))) (.c (.q 15 [] (.mv (.t 81))) (.c (.q 16 [] (.mv (.t 82))) .nil)))))))) t3_4)
def t3_5 := b3_5
theorem u3_5 : vcK P t3_5 k e w = vcK P b3_5 k e w := rfl
abbrev b3_6 : X := (.cond (.t 72) (.seq (.reg [1, 6, 8, 13, 14] (.c (.q 74 [] (.mv (.t 7))) (.c (.e (some 75) [] (.call false 11 [(.t 74)])) (.c (.q 73 [] (.mv (.t 75))) (.c (.q 76 [] (.ext 0 (.t 73))) (.c (.q 77 [] (.ext 1 (.t 73))) (.c (.q 13 [] (.mv (.t 76))) (.c (.q 14 [] (.mv (.t 77))) .nil)))))))) t3_5) .skip)
def t3_6 := b3_6
theorem u3_6 : vcK P t3_6 k e w = vcK P b3_6 k e w := rfl
abbrev b3_7 : X := (.cond (.t 119) (.seq (.reg [4] (.c (.q 4 [] (.mv (.c (.bool false)))) .nil)) .ret) .skip)
def t3_7 := b3_7
theorem u3_7 : vcK P t3_7 k e w = vcK P b3_7 k e w := rfl
abbrev b3_8 : X := (.cond (.t 137) (.seq (.reg [4] (.c (.q 4 [] (.mv (.c (.bool false)))) .nil)) .ret) .skip)
def t3_8 := b3_8
theorem u3_8 : vcK P t3_8 k e w = vcK P b3_8 k e w := rfl
abbrev b3_9 : X := (.seq (.drw [1, 18, 121, 122, 137] (.c (.q 125 [] (.mv (.t 18))) (.c (.q 126 [] (.mv (.t 22))) (.c (.q 127 [] (.ia 1 (.t 125) (.t 126))) (.c (.q 128 [] (.ld (.t 127))) (.c (.q 129 [] (.mv (.t 18))) (.c (.q 130 [] (.mv (.t 18))) (.c (.q 131 [] (.lens (.t 130))) (.c (.q 132 [] (.bin .sub (.t 131) (.c (.int .i64 1)))) (.c (.q 133 [] (.mv (.t 22))) (.c (.q 134 [] (.bin .sub (.t 132) (.t 133))) (.c (.q 135 [] (.ia 1 (.t 129) (.t 134))) (.c (.q 136 [] (.ld (.t 135))) (.c (.q 137 [] (.bin .neq (.t 128) (.t 136))) .nil)))))))))))))) t3_8)
def t3_9 := b3_9
theorem u3_9 : vcK P t3_9 k e w = vcK P b3_9 k e w := rfl
abbrev b3_10 : X := (.reg [1, 18, 121, 122] (.c (.q 138 [] (.bin .add (.t 122) (.c (.int .i64 1)))) (.c (.q 122 [] (.mv (.t 138))) .nil)))
def t3_10 := b3_10
theorem u3_10 : vcK P t3_10 k e w = vcK P b3_10 k e w := rfl
abbrev b3_11 : X := (.seq (.blk 1 (.seq (.reg [1, 18, 22, 121, 122] (.c (.q 124 [] (.mv (.t 122))) (.c (.q 22 [] (.mv (.t 124))) .nil))) t3_9)) t3_10)
def t3_11 := b3_11
theorem u3_11 : vcK P t3_11 k e w = vcK P b3_11 k e w := rfl
abbrev b3_12 : X := (.seq (.cond (.t 123) .skip (.exit 0)) t3_11)
def t3_12 := b3_12
theorem u3_12 : vcK P t3_12 k e w = vcK P b3_12 k e w := rfl
abbrev b3_13 : X := (.seq (.reg [1, 18, 121, 122, 123] (.c (.q 123 [] (.bin .lss (.t 122) (.t 121))) .nil)) t3_12)
def t3_13 := b3_13
theorem u3_13 : vcK P t3_13 k e w = vcK P b3_13 k e w := rfl
abbrev b3_14 : X := (.blk 0 (.loop [122] [1, 18, 121] t3_13))
def t3_14 := b3_14
theorem u3_14 : vcK P t3_14 k e w = vcK P b3_14 k e w := rfl
abbrev b3_15 : X := (.cond (.t 172) (.seq (.reg [4] (.c (.q 4 [] (.mv (.c (.bool false)))) .nil)) .ret) .skip)
def t3_15 := b3_15
theorem u3_15 : vcK P t3_15 k e w = vcK P b3_15 k e w := rfl
abbrev b3_16 : X := (.seq (.reg [4] (.c (.q 190 [] (.mv (.t 32))) (.c (.q 191 [] (.mv (.t 34))) (.c (.q 192 [] (.beq false (.t 190) (.t 191))) (.c (.q 193 [] (.mv (.t 192))) (.c (.q 194 [(193, true)] (.mv (.t 31))) (.c (.q 195 [(193, true)] (.mv (.t 33))) (.c (.q 196 [(193, true)] (.bin .eql (.t 194) (.t 195))) (.c (.q 197 [] (.pick (.t 193) (.t 196) (.c (.bool false)))) (.c (.q 4 [] (.mv (.t 197))) .nil)))))))))) .ret)
def t3_16 := b3_16
theorem u3_16 : vcK P t3_16 k e w = vcK P b3_16 k e w := rfl
abbrev b3_17 : X := (.seq (.reg [31, 32, 33, 34] (.c (.q 185 [] (.mv (.t 29))) (.c (.q 186 [] (.mv (.t 30))) (.c (.e (some 187) [] (.call false 20 [(.t 185), (.t 186)])) (.c (.q 184 [] (.mv (.t 187))) (.c (.q 188 [] (.ext 0 (.t 184))) (.c (.q 189 [] (.ext 1 (.t 184))) (.c (.q 33 [] (.mv (.t 188))) (.c (.q 34 [] (.mv (.t 189))) .nil))))))))) t3_16)
def t3_17 := b3_17
theorem u3_17 : vcK P t3_17 k e w = vcK P b3_17 k e w := rfl
abbrev b3_18 : X := (.seq (.reg [29, 30, 31, 32] (.c (.q 179 [] (.mv (.t 29))) (.c (.q 180 [] (.mv (.t 30))) (.c (.e (some 181) [] (.call false 19 [(.t 179), (.t 180)])) (.c (.q 178 [] (.mv (.t 181))) (.c (.q 182 [] (.ext 0 (.t 178))) (.c (.q 183 [] (.ext 1 (.t 178))) (.c (.q 31 [] (.mv (.t 182))) (.c (.q 32 [] (.mv (.t 183))) .nil))))))))) t3_17)
def t3_18 := b3_18
theorem u3_18 : vcK P t3_18 k e w = vcK P b3_18 k e w := rfl
abbrev b3_19 : X := (.seq (.reg [29, 30] (.c (.q 174 [] (.mv (.t 1))) (.c (.e (some 175) [] (.call false 18 [(.t 174)])) (.c (.q 173 [] (.mv (.t 175))) (.c (.q 176 [] (.ext 0 (.t 173))) (.c (.q 177 [] (.ext 1 (.t 173))) (.c (.q 29 [] (.mv (.t 176))) (.c (.q 30 [] (.mv (.t 177))) .nil)))))))) t3_18)
def t3_19 := b3_19
theorem u3_19 : vcK P t3_19 k e w = vcK P b3_19 k e w := rfl
abbrev b3_20 : X := (.seq (.seq (.reg [1, 172] (.c (.q 156 [] (.mv (.t 26))) (.c (.q 157 [] (.mv (.t 28))) (.c (.q 158 [] (.beq true (.t 156) (.t 157))) (.c (.q 159 [] (.mv (.t 158))) (.c (.q 160 [(159, false)] (.mv (.t 25))) (.c (.q 161 [(159, false)] (.mv (.t 27))) (.c (.q 162 [(159, false)] (.bin .neq (.t 160) (.t 161))) (.c (.q 163 [] (.pick (.t 159) (.c (.bool true)) (.t 162))) (.c (.q 164 [] (.mv (.t 163))) (.c (.q 165 [(164, false)] (.mv (.t 26))) (.c (.q 166 [(164, false)] (.mv (.t 165))) (.c (.q 167 [(166, true), (164, false)] (.mv (.t 23))) (.c (.q 168 [(166, true), (164, false)] (.mv (.t 25))) (.c (.e (some 169) [(166, true), (164, false)] (.call false 17 [(.t 167), (.t 168)])) (.c (.q 170 [(166, true), (164, false)] (.not (.t 169))) (.c (.q 171 [(164, false)] (.pick (.t 166) (.t 170) (.c (.bool false)))) (.c (.q 172 [] (.pick (.t 164) (.c (.bool true)) (.t 171))) .nil)))))))))))))))))) t3_15) t3_19)
def t3_20 := b3_20
theorem u3_20 : vcK P t3_20 k e w = vcK P b3_20 k e w := rfl
abbrev b3_21 : X := (.seq (.reg [1, 23, 25, 26, 27, 28] (.c (.q 151 [] (.mv (.t 23))) (.c (.q 152 [] (.mv (.t 24))) (.c (.e (some 153) [] (.call false 16 [(.t 151), (.t 152)])) (.c (.q 150 [] (.mv (.t 153))) (.c (.q 154 [] (.ext 0 (.t 150))) (.c (.q 155 [] (.ext 1 (.t 150))) (.c (.q 27 [] (.mv (.t 154))) (.c (.q 28 [] (.mv (.t 155))) .nil))))))))) t3_20)
def t3_21 := b3_21
theorem u3_21 : vcK P t3_21 k e w = vcK P b3_21 k e w := rfl
abbrev b3_22 : X := (.seq (.reg [1, 23, 24, 25, 26] (.c (.q 145 [] (.mv (.t 23))) (.c (.q 146 [] (.mv (.t 24))) (.c (.e (some 147) [] (.call false 15 [(.t 145), (.t 146)])) (.c (.q 144 [] (.mv (.t 147))) (.c (.q 148 [] (.ext 0 (.t 144))) (.c (.q 149 [] (.ext 1 (.t 144))) (.c (.q 25 [] (.mv (.t 148))) (.c (.q 26 [] (.mv (.t 149))) .nil))))))))) t3_21)
def t3_22 := b3_22
theorem u3_22 : vcK P t3_22 k e w = vcK P b3_22 k e w := rfl
abbrev b3_23 : X := (.seq (.reg [1, 23, 24] (.c (.q 140 [] (.mv (.t 1))) (.c (.e (some 141) [] (.call false 14 [(.t 140)])) (.c (.q 139 [] (.mv (.t 141))) (.c (.q 142 [] (.ext 0 (.t 139))) (.c (.q 143 [] (.ext 1 (.t 139))) (.c (.q 23 [] (.mv (.t 142))) (.c (.q 24 [] (.mv (.t 143))) .nil)))))))) t3_22)
def t3_23 := b3_23
theorem u3_23 : vcK P t3_23 k e w = vcK P b3_23 k e w := rfl
abbrev b3_24 : X := (.seq (.seq (.reg [1, 18, 121, 122] (.c (.q 120 [] (.mv (.t 18))) (.c (.q 121 [] (.lens (.t 120))) (.c (.q 122 [] (.mv (.c (.int .i64 0)))) .nil)))) t3_14) t3_23)
def t3_24 := b3_24
theorem u3_24 : vcK P t3_24 k e w = vcK P b3_24 k e w := rfl
abbrev b3_25 : X := (.seq (.seq (.reg [1, 18, 119] (.c (.q 111 [] (.mv (.t 19))) (.c (.q 112 [] (.mv (.t 21))) (.c (.q 113 [] (.beq true (.t 111) (.t 112))) (.c (.q 114 [] (.mv (.t 113))) (.c (.q 115 [(114, false)] (.mv (.t 18))) (.c (.q 116 [(114, false)] (.mv (.t 20))) (.c (.e (some 117) [(114, false)] (.call false 10 [(.t 115), (.t 116)])) (.c (.q 118 [(114, false)] (.not (.t 117))) (.c (.q 119 [] (.pick (.t 114) (.c (.bool true)) (.t 118))) .nil)))))))))) t3_7) t3_24)
def t3_25 := b3_25
theorem u3_25 : vcK P t3_25 k e w = vcK P b3_25 k e w := rfl
abbrev b3_26 : X := (.seq (.reg [1, 18, 19, 20, 21] (.c (.q 107 [] (.mv (.t 17))) (.c (.e (some 108) [] (.call false 13 [(.t 107)])) (.c (.q 106 [] (.mv (.t 108))) (.c (.q 109 [] (.ext 0 (.t 106))) (.c (.q 110 [] (.ext 1 (.t 106))) (.c (.q 20 [] (.mv (.t 109))) (.c (.q 21 [] (.mv (.t 110))) .nil)))))))) t3_25)
def t3_26 := b3_26
theorem u3_26 : vcK P t3_26 k e w = vcK P b3_26 k e w := rfl
abbrev b3_27 : X := (.seq (.reg [1, 17, 18, 19] (.c (.q 102 [] (.mv (.t 17))) (.c (.e (some 103) [] (.call false 11 [(.t 102)])) (.c (.q 101 [] (.mv (.t 103))) (.c (.q 104 [] (.ext 0 (.t 101))) (.c (.q 105 [] (.ext 1 (.t 101))) (.c (.q 18 [] (.mv (.t 104))) (.c (.q 19 [] (.mv (.t 105))) .nil)))))))) t3_26)
def t3_27 := b3_27
theorem u3_27 : vcK P t3_27 k e w = vcK P b3_27 k e w := rfl
abbrev b3_28 : X := (.seq (.reg [1, 17] (.c (.q 99 [] (.mv (.t 1))) (.c (.e (some 100) [] (.call false 12 [(.t 99)])) (.c (.q 17 [] (.mv (.t 100))) .nil)))) t3_27)
def t3_28 := b3_28
theorem u3_28 : vcK P t3_28 k e w = vcK P b3_28 k e w := rfl
abbrev b3_29 : X := (.seq (.seq (.reg [1, 6, 7, 8, 72] (.c (.q 72 [] (.mv (.t 9))) .nil)) t3_6) t3_28)
def t3_29 := b3_29
theorem u3_29 : vcK P t3_29 k e w = vcK P b3_29 k e w := rfl
abbrev b3_30 : X := (.seq (.seq (.reg [1, 6, 7, 8, 9, 71] (.c (.q 57 [] (.mv (.t 9))) (.c (.q 58 [] (.mv (.t 12))) (.c (.q 59 [] (.beq true (.t 57) (.t 58))) (.c (.q 60 [] (.mv (.t 59))) (.c (.q 61 [(60, false)] (.mv (.t 7))) (.c (.q 62 [(60, false)] (.mv (.t 10))) (.c (.e (some 63) [(60, false)] (.call false 10 [(.t 61), (.t 62)])) (.c (.q 64 [(60, false)] (.not (.t 63))) (.c (.q 65 [] (.pick (.t 60) (.c (.bool true)) (.t 64))) (.c (.q 66 [] (.mv (.t 65))) (.c (.q 67 [(66, false)] (.mv (.t 8))) (.c (.q 68 [(66, false)] (.mv (.t 11))) (.c (.e (some 69) [(66, false)] (.call false 10 [(.t 67), (.t 68)])) (.c (.q 70 [(66, false)] (.not (.t 69))) (.c (.q 71 [] (.pick (.t 66) (.c (.bool true)) (.t 70))) .nil)))))))))))))))) t3_2) t3_29)
def t3_30 := b3_30
theorem u3_30 : vcK P t3_30 k e w = vcK P b3_30 k e w := rfl
abbrev b3_31 : X := (.seq (.reg [1, 6, 7, 8, 9, 10, 11, 12] (.c (.q 51 [] (.mv (.t 5))) (.c (.q 52 [] (.mv (.t 6))) (.c (.e (some 53) [] (.call false 9 [(.t 51), (.t 52)])) (.c (.q 50 [] (.mv (.t 53))) (.c (.q 54 [] (.ext 0 (.t 50))) (.c (.q 55 [] (.ext 1 (.t 50))) (.c (.q 56 [] (.ext 2 (.t 50))) (.c (.q 10 [] (.mv (.t 54))) (.c (.q 11 [] (.mv (.t 55))) (.c (.q 12 [] (.mv (.t 56))) .nil))))))))))) t3_30)
def t3_31 := b3_31
theorem u3_31 : vcK P t3_31 k e w = vcK P b3_31 k e w := rfl
abbrev b3_32 : X := (.seq (.reg [1, 5, 6, 7, 8, 9] (.c (.q 44 [] (.mv (.t 5))) (.c (.q 45 [] (.mv (.t 6))) (.c (.e (some 46) [] (.call false 8 [(.t 44), (.t 45)])) (.c (.q 43 [] (.mv (.t 46))) (.c (.q 47 [] (.ext 0 (.t 43))) (.c (.q 48 [] (.ext 1 (.t 43))) (.c (.q 49 [] (.ext 2 (.t 43))) (.c (.q 7 [] (.mv (.t 47))) (.c (.q 8 [] (.mv (.t 48))) (.c (.q 9 [] (.mv (.t 49))) .nil))))))))))) t3_31)
def t3_32 := b3_32
theorem u3_32 : vcK P t3_32 k e w = vcK P b3_32 k e w := rfl
abbrev b3_33 : X := (.seq (.reg [1, 5, 6] (.c (.q 39 [] (.mv (.t 0))) (.c (.e (some 40) [] (.call false 7 [(.t 39)])) (.c (.q 38 [] (.mv (.t 40))) (.c (.q 41 [] (.ext 0 (.t 38))) (.c (.q 42 [] (.ext 1 (.t 38))) (.c (.q 5 [] (.mv (.t 41))) (.c (.q 6 [] (.mv (.t 42))) .nil)))))))) t3_32)
def t3_33 := b3_33
theorem u3_33 : vcK P t3_33 k e w = vcK P b3_33 k e w := rfl
abbrev b3_34 : X := (.seq (.seq (.reg [0, 1, 37] (.c (.q 35 [] (.mv (.t 0))) (.c (.q 36 [] (.mv (.t 1))) (.c (.e (some 37) [] (.call false 6 [(.t 35), (.t 36)])) .nil)))) t3_1) t3_33)
def t3_34 := b3_34
theorem u3_34 : vcK P t3_34 k e w = vcK P b3_34 k e w := rfl
abbrev b3_0 : X := (.seq (.reg [0, 1] (.c (.q 4 [] (.mv (.c (.bool false)))) .nil)) t3_34)
def x_lFnHalves := b3_0
theorem u3_0 : vcK P x_lFnHalves k e w = vcK P b3_0 k e w := rfl
def r_lFnHalves : List XO := [(.mv (.t 4))]
theorem c_lFnHalves : convF Try.prog [38, 39, 41, 42, 49, 54, 55, 57, 58, 59, 79, 81, 84, 87, 139] Try.f3 [([0, 1], []), ([0, 1, 37], []), ([4], []), ([1, 5, 6], []), ([1, 5, 6, 7, 8, 9], []), ([1, 6, 7, 8, 9, 10, 11, 12], []), ([1, 6, 7, 8, 9, 71], []), ([4], []), ([1, 6, 7, 8, 72], []), ([1, 6, 8, 13, 14], []), ([1, 6, 13, 14, 15, 16], []), ([1, 98], []), ([4], []), ([1, 17], []), ([1, 17, 18, 19], []), ([1, 18, 19, 20, 21], []), ([1, 18, 119], []), ([4], []), ([1, 18, 121, 122], []), ([122], [1, 18, 121]), ([1, 18, 121, 122, 123], []), ([1, 18, 22, 121, 122], []), ([1, 18, 121, 122, 137], []), ([4], []), ([1, 18, 121, 122], []), ([1, 23, 24], []), ([1, 23, 24, 25, 26], []), ([1, 23, 25, 26, 27, 28], []), ([1, 172], []), ([4], []), ([29, 30], []), ([29, 30, 31, 32], []), ([31, 32, 33, 34], []), ([4], [])] = some (x_lFnHalves, r_lFnHalves) := by kernel_rfl
def us_lFnHalves :=  (aI (aI (aI (aI (aI @u3_0 @u3_1) (aI @u3_2 @u3_3)) (aI (aI @u3_4 @u3_5) (aI @u3_6 @u3_7))) (aI (aI (aI @u3_8 @u3_9) (aI @u3_10 @u3_11)) (aI (aI @u3_12 @u3_13) (aI @u3_14 (aI @u3_15 @u3_16))))) (aI (aI (aI (aI @u3_17 @u3_18) (aI @u3_19 @u3_20)) (aI (aI @u3_21 @u3_22) (aI @u3_23 (aI @u3_24 @u3_25)))) (aI (aI (aI @u3_26 @u3_27) (aI @u3_28 @u3_29)) (aI (aI @u3_30 @u3_31) (aI @u3_32 (aI @u3_33 @u3_34))))))
end

set_option maxHeartbeats 4000000 in
theorem lFnHalves_ok (v u : Value) (code more : List UInt8) (hcl : code.length ≤ 9223372036854775807) (hml : more.length ≤ 9223372036854775807) (w : World) (h : Sq fU 1 w v code) (h' : Sq fU 1 w u more) : Fn 3 [v, u] w (fun r _ => r = .bool true) := by
  (refine callsV_of mix Try.func3 c_lFnHalves ?_; simp only [↓vsd, vsn, gW, qd, qv, ev, pick, argE, zipE, ne_eq, eq_self, forall_const, implies_true, if_true, if_false, reduceIte, reduceCtorEq, Nat.reduceEqDiff, Nat.reduceAdd, Nat.reduceLT, ↓us_lFnHalves, r_lFnHalves])
  refine m_call (lbig_ok v u code more hcl hml _ h h') ?_
  rintro _ w0 hx0 rfl
  simp only [↓vsd, vsn, gW, qd, qv, ev, pick, argE, zipE, ne_eq, eq_self, forall_const, implies_true, if_true, if_false, reduceIte, reduceCtorEq, Nat.reduceEqDiff, Nat.reduceAdd, Nat.reduceLT, ↓us_lFnHalves, r_lFnHalves]
  refine ⟨fun _ => hx0, fun hsm => ?_⟩
  have hlen : code.length ≤ 1048576 ∧ more.length ≤ 1048576 := by omega
  refine m_call (sDrawHalvesOf_ok v code hlen.1 _ (h.ext hx0)) ?_
  rintro _ w1 hx1 ⟨n, y, l, rfl, hq, hl1, hs1⟩
  have hs : ∀ c ∈ l, c.length ≤ 1000 := fun c hc => by have := hs1 c hc; omega
  simp only [↓vsd, vsn, gW, qd, qv, ev, pick, argE, zipE, ne_eq, eq_self, forall_const, implies_true, if_true, if_false, reduceIte, reduceCtorEq, Nat.reduceEqDiff, Nat.reduceAdd, Nat.reduceLT, ↓us_lFnHalves, r_lFnHalves]
  by_cases hY : ∃ a b, IsList n l ∧ halvesL l = some (a, b)
  · obtain ⟨a, b, hL, he⟩ := hY
    obtain ⟨hmm, ha, hb, hca, hcb⟩ := halvesL_spec he
    have hmla := mirL_len a
    have hmlb := mirL_len b
    have hll : (mirL a).length + (mirL b).length = l.length := by rw [← hmm, List.length_append]
    have hl40 := hL.1
    refine m_call (iHalvesOf_ok n y l hs (by omega) _ hq) ?_
    rintro r2 w2 hx2 hr2
    obtain ⟨x2, z2, rfl, hoa2, hob2⟩ := (hr2.1 hL).1 a b he
    simp only [↓vsd, vsn, gW, qd, qv, ev, pick, argE, zipE, ne_eq, eq_self, forall_const, implies_true, if_true, if_false, reduceIte, reduceCtorEq, Nat.reduceEqDiff, Nat.reduceAdd, Nat.reduceLT, ↓us_lFnHalves, r_lFnHalves]
    refine m_call (sHalvesOf_ok n y l hs (by omega) _ (hq.ext hx2)) ?_
    rintro r3 w3 hx3 hr3
    obtain ⟨x3, z3, rfl, hoa3, hob3⟩ := (hr3.1 hL).1 a b he
    simp only [↓vsd, vsn, gW, qd, qv, ev, pick, argE, zipE, ne_eq, eq_self, forall_const, implies_true, if_true, if_false, reduceIte, reduceCtorEq, Nat.reduceEqDiff, Nat.reduceAdd, Nat.reduceLT, ↓us_lFnHalves, r_lFnHalves]
    refine m_call (lsameTexts_ok x2 x3 a a _ (hoa2.sq.ext hx3) hoa3.sq (by omega)) ?_
    rintro _ w4 hx4 rfl
    simp only [↓vsd, vsn, gW, qd, qv, ev, pick, argE, zipE, ne_eq, eq_self, forall_const, implies_true, if_true, if_false, reduceIte, reduceCtorEq, Nat.reduceEqDiff, Nat.reduceAdd, Nat.reduceLT, ↓us_lFnHalves, r_lFnHalves]
    refine m_call (lsameTexts_ok z2 z3 b b _ ((hob2.sq.ext hx3).ext hx4) (hob3.sq.ext hx4) (by omega)) ?_
    rintro _ w5 hx5 rfl
    simp only [↓vsd, vsn, gW, qd, qv, ev, pick, argE, zipE, ne_eq, eq_self, forall_const, implies_true, if_true, if_false, reduceIte, reduceCtorEq, Nat.reduceEqDiff, Nat.reduceAdd, Nat.reduceLT, ↓us_lFnHalves, r_lFnHalves]
    refine m_call (iMirrorAll_ok x2 a (by omega) _ (((hoa2.sq.ext hx3).ext hx4).ext hx5)) ?_
    rintro r6 w6 hx6 hr6
    obtain ⟨p6, rfl, ho6⟩ := hr6.1 (by omega)
    simp only [↓vsd, vsn, gW, qd, qv, ev, pick, argE, zipE, ne_eq, eq_self, forall_const, implies_true, if_true, if_false, reduceIte, reduceCtorEq, Nat.reduceEqDiff, Nat.reduceAdd, Nat.reduceLT, ↓us_lFnHalves, r_lFnHalves]
    refine m_call (iMirrorAll_ok z2 b (by omega) _ ((((hob2.sq.ext hx3).ext hx4).ext hx5).ext hx6)) ?_
    rintro r7 w7 hx7 hr7
    obtain ⟨p7, rfl, ho7⟩ := hr7.1 (by omega)
    simp only [↓vsd, vsn, gW, qd, qv, ev, pick, argE, zipE, ne_eq, eq_self, forall_const, implies_true, if_true, if_false, reduceIte, reduceCtorEq, Nat.reduceEqDiff, Nat.reduceAdd, Nat.reduceLT, ↓us_lFnHalves, r_lFnHalves]
    refine m_bsl (by simp) ?_
    rintro b8 w8 hb8 hblk8 hx8 hs8
    have hx17 : Ext w w7 := ((((((hx0.trans hx1).trans hx2).trans hx3).trans hx4).trans hx5).trans hx6).trans hx7
    have hz7 := hx17.size
    simp only [↓vsd, vsn, gW, qd, qv, ev, pick, argE, zipE, ne_eq, eq_self, forall_const, implies_true, if_true, if_false, reduceIte, reduceCtorEq, Nat.reduceEqDiff, Nat.reduceAdd, Nat.reduceLT, ↓us_lFnHalves, r_lFnHalves]
    refine m_app (Own.empty (B := w7.heap.size) fS_len hblk8 (by omega)) ((ho6.sq.ext hx7).ext hx8) fS_one (by decide) (by simp; omega) (by decide) hx8.size ?_
    rintro y9 w9 ho9 hg9
    simp only [↓vsd, vsn, gW, qd, qv, ev, pick, argE, zipE, ne_eq, eq_self, forall_const, implies_true, if_true, if_false, reduceIte, reduceCtorEq, Nat.reduceEqDiff, Nat.reduceAdd, Nat.reduceLT, ↓us_lFnHalves, r_lFnHalves]
    have hz9 := hx8.size
    refine m_app ho9 (((ho7.ext hx8).off hg9 (fun c hc => ho7.away (by cases hc; exact Nat.le_of_eq hb8.symm))).sq) fS_one (by decide) (by rw [List.nil_append]; omega) (by decide) (by have := hg9.size; omega) ?_
    rintro y10 w10 ho10 hg10
    simp only [↓vsd, vsn, gW, qd, qv, ev, pick, argE, zipE, ne_eq, eq_self, forall_const, implies_true, if_true, if_false, reduceIte, reduceCtorEq, Nat.reduceEqDiff, Nat.reduceAdd, Nat.reduceLT, ↓us_lFnHalves, r_lFnHalves]
    have hx710 : Ext w7 w10 := ext_grow' (ext_grow' hx8 hg9 (fun c hc => by cases hc; exact Nat.le_of_eq hb8.symm)) hg10 (fun c hc => (ho9.bound c hc).1)
    rw [List.nil_append, hmm] at ho10
    have hx110 := (((((hx2.trans hx3).trans hx4).trans hx5).trans hx6).trans hx7).trans hx710
    refine m_call (lsameTexts_ok y10 y l l _ ho10.sq (hq.ext hx110) (by omega)) ?_
    rintro _ w11 hx11 rfl
    simp only [↓vsd, vsn, gW, qd, qv, ev, pick, argE, zipE, ne_eq, eq_self, forall_const, implies_true, if_true, if_false, reduceIte, reduceCtorEq, Nat.reduceEqDiff, Nat.reduceAdd, Nat.reduceLT, ↓us_lFnHalves, r_lFnHalves]
    have hxB := (hx17.trans hx710).trans hx11
    refine m_call (sDrawMirrorAll_ok u more hlen.2 _ (h'.ext hxB)) ?_
    rintro vm wa hxa ⟨lm, hqm, hml', hsm'⟩
    simp only [↓vsd, vsn, gW, qd, qv, ev, pick, argE, zipE, ne_eq, eq_self, forall_const, implies_true, if_true, if_false, reduceIte, reduceCtorEq, Nat.reduceEqDiff, Nat.reduceAdd, Nat.reduceLT, ↓us_lFnHalves, r_lFnHalves]
    by_cases hm41 : 2 * lm.length ≤ 41
    · refine m_call (iMirrorAll_ok vm lm (by omega) _ hqm) ?_
      rintro r1 wb hxb hr1
      obtain ⟨xm, rfl, hom⟩ := hr1.1 hm41
      simp only [↓vsd, vsn, gW, qd, qv, ev, pick, argE, zipE, ne_eq, eq_self, forall_const, implies_true, if_true, if_false, reduceIte, reduceCtorEq, Nat.reduceEqDiff, Nat.reduceAdd, Nat.reduceLT, ↓us_lFnHalves, r_lFnHalves]
      refine m_call (sMirrorAll_ok vm lm (by omega) _ (hqm.ext hxb)) ?_
      rintro r2 wc hxc hr2
      obtain ⟨xn, rfl, hon⟩ := hr2.1 hm41
      simp only [↓vsd, vsn, gW, qd, qv, ev, pick, argE, zipE, ne_eq, eq_self, forall_const, implies_true, if_true, if_false, reduceIte, reduceCtorEq, Nat.reduceEqDiff, Nat.reduceAdd, Nat.reduceLT, ↓us_lFnHalves, r_lFnHalves]
      have hmlen := mirL_len lm
      refine m_call (lsameTexts_ok xm xn _ _ _ (hom.sq.ext hxc) hon.sq (by omega)) ?_
      rintro _ wc2 hxc2 rfl
      have hq6 := (hom.sq.ext hxc).ext hxc2
      have hxB2 := (((hxB.trans hxa).trans hxb).trans hxc).trans hxc2
      have hpal := mirL_pal lm
      generalize mirL lm = L at *
      simp only [↓vsd, vsn, gW, qd, qv, ev, pick, argE, zipE, ne_eq, eq_self, forall_const, implies_true, if_true, if_false, reduceIte, reduceCtorEq, Nat.reduceEqDiff, Nat.reduceAdd, Nat.reduceLT, ↓us_lFnHalves, r_lFnHalves, hq6.facts]
      refine m_upto L.length (fun k vs w' => vs = [.int .i64 k] ∧ Ext wc2 w') ⟨rfl, Ext.refl _⟩ ?_
      rintro k vs w7 hk ⟨rfl, hx7⟩
      have hq7 := hq6.ext hx7
      by_cases hlt : k < L.length
      · have hltI : (k : Int) < L.length := by omega
        have ei : ((L.length : Nat) : Int) - 1 - (k : Nat) = ((L.length - 1 - k : Nat) : Int) := by omega
        have hp := hpal k hlt
        have hpe : L.getD k [] = L.getD (L.length - 1 - k) [] := hp
        have a1 := hq7.at1 [] hlt
        have a2 := hq7.at1 [] (show L.length - 1 - k < L.length by omega)
        simp only [↓vsd, vsn, gW, qd, qv, ev, pick, argE, zipE, ne_eq, eq_self, forall_const, implies_true, if_true, if_false, reduceIte, reduceCtorEq, Nat.reduceEqDiff, Nat.reduceAdd, Nat.reduceLT, ↓us_lFnHalves, r_lFnHalves, hq7.facts, hltI, ei, a1, a2, hpe]
        exact ⟨by omega, inR_i64 (by omega), inR_i64 (by omega), ⟨by omega, by omega⟩, inR_i64 (by omega), UpTo.next (by omega) ⟨rfl, dr hx7⟩⟩
      · have hltI : ¬ (k : Int) < L.length := by omega
        simp only [↓vsd, vsn, gW, qd, qv, ev, pick, argE, zipE, ne_eq, eq_self, forall_const, implies_true, if_true, if_false, reduceIte, reduceCtorEq, Nat.reduceEqDiff, Nat.reduceAdd, Nat.reduceLT, ↓us_lFnHalves, r_lFnHalves, hq7.facts, hltI]
        have hxC := hxB2.trans hx7
        refine m_call (sDrawTidyChange_ok u more hlen.2 _ (h'.ext hxC)) ?_
        rintro _ wd hxd ⟨i, s, rfl, hs2⟩
        simp only [↓vsd, vsn, gW, qd, qv, ev, pick, argE, zipE, ne_eq, eq_self, forall_const, implies_true, if_true, if_false, reduceIte, reduceCtorEq, Nat.reduceEqDiff, Nat.reduceAdd, Nat.reduceLT, ↓us_lFnHalves, r_lFnHalves]
        by_cases htd : TdOk i s
        · have e : tdV i s = .tuple ⟨[S (tidyL i.toNat s), .bool true]⟩ := by rw [tdV, if_pos htd, decide_eq_true htd]
          refine m_call (iTidyChange_ok i s (by omega) _) ?_
          rintro _ we hxe hre
          rw [e] at hre
          subst hre
          simp only [↓vsd, vsn, gW, qd, qv, ev, pick, argE, zipE, ne_eq, eq_self, forall_const, implies_true, if_true, if_false, reduceIte, reduceCtorEq, Nat.reduceEqDiff, Nat.reduceAdd, Nat.reduceLT, ↓us_lFnHalves, r_lFnHalves]
          refine m_call (sTidyChange_ok i s (by omega) _) ?_
          rintro _ wf hxf hrf
          rw [e] at hrf
          subst hrf
          simp only [↓vsd, vsn, gW, qd, qv, ev, pick, argE, zipE, ne_eq, eq_self, forall_const, implies_true, if_true, if_false, reduceIte, reduceCtorEq, Nat.reduceEqDiff, Nat.reduceAdd, Nat.reduceLT, ↓us_lFnHalves, r_lFnHalves]
          refine m_call (iGoodChange_ok i _ (by have := tidyL_len i.toNat s; omega) _) ?_
          rintro _ wf2 hxf2 rfl
          have hic : IsChange i (tidyL i.toNat s) := by
            have := tidyL_change htd.2
            rwa [Int.toNat_of_nonneg (by have := htd.1; omega)] at this
          simp only [↓vsd, vsn, gW, qd, qv, ev, pick, argE, zipE, ne_eq, eq_self, forall_const, implies_true, if_true, if_false, reduceIte, reduceCtorEq, Nat.reduceEqDiff, Nat.reduceAdd, Nat.reduceLT, ↓us_lFnHalves, r_lFnHalves, hic]
          have hxD := (((hxC.trans hxd).trans hxe).trans hxf).trans hxf2
          refine m_call (sDrawCountChanges_ok u more hlen.2 _ (h'.ext hxD)) ?_
          rintro _ wg hxg ⟨j, t, rfl, ht⟩
          simp only [↓vsd, vsn, gW, qd, qv, ev, pick, argE, zipE, ne_eq, eq_self, forall_const, implies_true, if_true, if_false, reduceIte, reduceCtorEq, Nat.reduceEqDiff, Nat.reduceAdd, Nat.reduceLT, ↓us_lFnHalves, r_lFnHalves]
          refine m_call (iCountChanges_ok j t (by omega) _) ?_
          rintro _ wh hxh rfl
          rw [cntV]
          simp only [↓vsd, vsn, gW, qd, qv, ev, pick, argE, zipE, ne_eq, eq_self, forall_const, implies_true, if_true, if_false, reduceIte, reduceCtorEq, Nat.reduceEqDiff, Nat.reduceAdd, Nat.reduceLT, ↓us_lFnHalves, r_lFnHalves]
          refine m_call (sCountChanges_ok j t (by omega) _) ?_
          rintro _ wi hxi rfl
          rw [cntV]
          simp only [↓vsd, vsn, gW, qd, qv, ev, pick, argE, zipE, ne_eq, eq_self, forall_const, implies_true, if_true, if_false, reduceIte, reduceCtorEq, Nat.reduceEqDiff, Nat.reduceAdd, Nat.reduceLT, ↓us_lFnHalves, r_lFnHalves]
          have hxE := ((hxD.trans hxg).trans hxh).trans hxi
          exact hxE
        · refine m_call (iTidyChange_ok i s (by omega) _) ?_
          rintro _ we hxe hre
          rw [tdV_no htd] at hre
          subst hre
          simp only [↓vsd, vsn, gW, qd, qv, ev, pick, argE, zipE, ne_eq, eq_self, forall_const, implies_true, if_true, if_false, reduceIte, reduceCtorEq, Nat.reduceEqDiff, Nat.reduceAdd, Nat.reduceLT, ↓us_lFnHalves, r_lFnHalves]
          refine m_call (sTidyChange_ok i s (by omega) _) ?_
          rintro _ wf hxf hrf
          rw [tdV_no htd] at hrf
          subst hrf
          simp only [↓vsd, vsn, gW, qd, qv, ev, pick, argE, zipE, ne_eq, eq_self, forall_const, implies_true, if_true, if_false, reduceIte, reduceCtorEq, Nat.reduceEqDiff, Nat.reduceAdd, Nat.reduceLT, ↓us_lFnHalves, r_lFnHalves]
          have hxD := ((hxC.trans hxd).trans hxe).trans hxf
          refine m_call (sDrawCountChanges_ok u more hlen.2 _ (h'.ext hxD)) ?_
          rintro _ wg hxg ⟨j, t, rfl, ht⟩
          simp only [↓vsd, vsn, gW, qd, qv, ev, pick, argE, zipE, ne_eq, eq_self, forall_const, implies_true, if_true, if_false, reduceIte, reduceCtorEq, Nat.reduceEqDiff, Nat.reduceAdd, Nat.reduceLT, ↓us_lFnHalves, r_lFnHalves]
          refine m_call (iCountChanges_ok j t (by omega) _) ?_
          rintro _ wh hxh rfl
          rw [cntV]
          simp only [↓vsd, vsn, gW, qd, qv, ev, pick, argE, zipE, ne_eq, eq_self, forall_const, implies_true, if_true, if_false, reduceIte, reduceCtorEq, Nat.reduceEqDiff, Nat.reduceAdd, Nat.reduceLT, ↓us_lFnHalves, r_lFnHalves]
          refine m_call (sCountChanges_ok j t (by omega) _) ?_
          rintro _ wi hxi rfl
          rw [cntV]
          simp only [↓vsd, vsn, gW, qd, qv, ev, pick, argE, zipE, ne_eq, eq_self, forall_const, implies_true, if_true, if_false, reduceIte, reduceCtorEq, Nat.reduceEqDiff, Nat.reduceAdd, Nat.reduceLT, ↓us_lFnHalves, r_lFnHalves]
          have hxE := ((hxD.trans hxg).trans hxh).trans hxi
          exact hxE
    · refine m_call (iMirrorAll_ok vm lm (by omega) _ hqm) ?_
      rintro r1 wb hxb hr1
      obtain rfl := hr1.2 hm41
      simp only [↓vsd, vsn, gW, qd, qv, ev, pick, argE, zipE, ne_eq, eq_self, forall_const, implies_true, if_true, if_false, reduceIte, reduceCtorEq, Nat.reduceEqDiff, Nat.reduceAdd, Nat.reduceLT, ↓us_lFnHalves, r_lFnHalves]
      refine m_call (sMirrorAll_ok vm lm (by omega) _ (hqm.ext hxb)) ?_
      rintro r2 wc hxc hr2
      obtain rfl := hr2.2 hm41
      simp only [↓vsd, vsn, gW, qd, qv, ev, pick, argE, zipE, ne_eq, eq_self, forall_const, implies_true, if_true, if_false, reduceIte, reduceCtorEq, Nat.reduceEqDiff, Nat.reduceAdd, Nat.reduceLT, ↓us_lFnHalves, r_lFnHalves]
      refine m_call (lsameTexts_ok _ _ [] [] _ (Sq.nil fS_len) (Sq.nil fS_len) (by simp)) ?_
      rintro _ wc2 hxc2 rfl
      have hxB2 := (((hxB.trans hxa).trans hxb).trans hxc).trans hxc2
      simp only [↓vsd, vsn, gW, qd, qv, ev, pick, argE, zipE, ne_eq, eq_self, forall_const, implies_true, if_true, if_false, reduceIte, reduceCtorEq, Nat.reduceEqDiff, Nat.reduceAdd, Nat.reduceLT, ↓us_lFnHalves, r_lFnHalves]
      refine m_upto 0 (fun k vs w' => vs = [.int .i64 k] ∧ Ext wc2 w') ⟨rfl, Ext.refl _⟩ ?_
      rintro k vs w7 hk ⟨rfl, hx7⟩
      have hltI : ¬ (k : Int) < ((0 : Nat) : Int) := by omega
      simp only [↓vsd, vsn, gW, qd, qv, ev, pick, argE, zipE, ne_eq, eq_self, forall_const, implies_true, if_true, if_false, reduceIte, reduceCtorEq, Nat.reduceEqDiff, Nat.reduceAdd, Nat.reduceLT, ↓us_lFnHalves, r_lFnHalves, hltI]
      have hxC := hxB2.trans hx7
      refine m_call (sDrawTidyChange_ok u more hlen.2 _ (h'.ext hxC)) ?_
      rintro _ wd hxd ⟨i, s, rfl, hs2⟩
      simp only [↓vsd, vsn, gW, qd, qv, ev, pick, argE, zipE, ne_eq, eq_self, forall_const, implies_true, if_true, if_false, reduceIte, reduceCtorEq, Nat.reduceEqDiff, Nat.reduceAdd, Nat.reduceLT, ↓us_lFnHalves, r_lFnHalves]
      by_cases htd : TdOk i s
      · have e : tdV i s = .tuple ⟨[S (tidyL i.toNat s), .bool true]⟩ := by rw [tdV, if_pos htd, decide_eq_true htd]
        refine m_call (iTidyChange_ok i s (by omega) _) ?_
        rintro _ we hxe hre
        rw [e] at hre
        subst hre
        simp only [↓vsd, vsn, gW, qd, qv, ev, pick, argE, zipE, ne_eq, eq_self, forall_const, implies_true, if_true, if_false, reduceIte, reduceCtorEq, Nat.reduceEqDiff, Nat.reduceAdd, Nat.reduceLT, ↓us_lFnHalves, r_lFnHalves]
        refine m_call (sTidyChange_ok i s (by omega) _) ?_
        rintro _ wf hxf hrf
        rw [e] at hrf
        subst hrf
        simp only [↓vsd, vsn, gW, qd, qv, ev, pick, argE, zipE, ne_eq, eq_self, forall_const, implies_true, if_true, if_false, reduceIte, reduceCtorEq, Nat.reduceEqDiff, Nat.reduceAdd, Nat.reduceLT, ↓us_lFnHalves, r_lFnHalves]
        refine m_call (iGoodChange_ok i _ (by have := tidyL_len i.toNat s; omega) _) ?_
        rintro _ wf2 hxf2 rfl
        have hic : IsChange i (tidyL i.toNat s) := by
          have := tidyL_change htd.2
          rwa [Int.toNat_of_nonneg (by have := htd.1; omega)] at this
        simp only [↓vsd, vsn, gW, qd, qv, ev, pick, argE, zipE, ne_eq, eq_self, forall_const, implies_true, if_true, if_false, reduceIte, reduceCtorEq, Nat.reduceEqDiff, Nat.reduceAdd, Nat.reduceLT, ↓us_lFnHalves, r_lFnHalves, hic]
        have hxD := (((hxC.trans hxd).trans hxe).trans hxf).trans hxf2
        refine m_call (sDrawCountChanges_ok u more hlen.2 _ (h'.ext hxD)) ?_
        rintro _ wg hxg ⟨j, t, rfl, ht⟩
        simp only [↓vsd, vsn, gW, qd, qv, ev, pick, argE, zipE, ne_eq, eq_self, forall_const, implies_true, if_true, if_false, reduceIte, reduceCtorEq, Nat.reduceEqDiff, Nat.reduceAdd, Nat.reduceLT, ↓us_lFnHalves, r_lFnHalves]
        refine m_call (iCountChanges_ok j t (by omega) _) ?_
        rintro _ wh hxh rfl
        rw [cntV]
        simp only [↓vsd, vsn, gW, qd, qv, ev, pick, argE, zipE, ne_eq, eq_self, forall_const, implies_true, if_true, if_false, reduceIte, reduceCtorEq, Nat.reduceEqDiff, Nat.reduceAdd, Nat.reduceLT, ↓us_lFnHalves, r_lFnHalves]
        refine m_call (sCountChanges_ok j t (by omega) _) ?_
        rintro _ wi hxi rfl
        rw [cntV]
        simp only [↓vsd, vsn, gW, qd, qv, ev, pick, argE, zipE, ne_eq, eq_self, forall_const, implies_true, if_true, if_false, reduceIte, reduceCtorEq, Nat.reduceEqDiff, Nat.reduceAdd, Nat.reduceLT, ↓us_lFnHalves, r_lFnHalves]
        have hxE := ((hxD.trans hxg).trans hxh).trans hxi
        exact hxE
      · refine m_call (iTidyChange_ok i s (by omega) _) ?_
        rintro _ we hxe hre
        rw [tdV_no htd] at hre
        subst hre
        simp only [↓vsd, vsn, gW, qd, qv, ev, pick, argE, zipE, ne_eq, eq_self, forall_const, implies_true, if_true, if_false, reduceIte, reduceCtorEq, Nat.reduceEqDiff, Nat.reduceAdd, Nat.reduceLT, ↓us_lFnHalves, r_lFnHalves]
        refine m_call (sTidyChange_ok i s (by omega) _) ?_
        rintro _ wf hxf hrf
        rw [tdV_no htd] at hrf
        subst hrf
        simp only [↓vsd, vsn, gW, qd, qv, ev, pick, argE, zipE, ne_eq, eq_self, forall_const, implies_true, if_true, if_false, reduceIte, reduceCtorEq, Nat.reduceEqDiff, Nat.reduceAdd, Nat.reduceLT, ↓us_lFnHalves, r_lFnHalves]
        have hxD := ((hxC.trans hxd).trans hxe).trans hxf
        refine m_call (sDrawCountChanges_ok u more hlen.2 _ (h'.ext hxD)) ?_
        rintro _ wg hxg ⟨j, t, rfl, ht⟩
        simp only [↓vsd, vsn, gW, qd, qv, ev, pick, argE, zipE, ne_eq, eq_self, forall_const, implies_true, if_true, if_false, reduceIte, reduceCtorEq, Nat.reduceEqDiff, Nat.reduceAdd, Nat.reduceLT, ↓us_lFnHalves, r_lFnHalves]
        refine m_call (iCountChanges_ok j t (by omega) _) ?_
        rintro _ wh hxh rfl
        rw [cntV]
        simp only [↓vsd, vsn, gW, qd, qv, ev, pick, argE, zipE, ne_eq, eq_self, forall_const, implies_true, if_true, if_false, reduceIte, reduceCtorEq, Nat.reduceEqDiff, Nat.reduceAdd, Nat.reduceLT, ↓us_lFnHalves, r_lFnHalves]
        refine m_call (sCountChanges_ok j t (by omega) _) ?_
        rintro _ wi hxi rfl
        rw [cntV]
        simp only [↓vsd, vsn, gW, qd, qv, ev, pick, argE, zipE, ne_eq, eq_self, forall_const, implies_true, if_true, if_false, reduceIte, reduceCtorEq, Nat.reduceEqDiff, Nat.reduceAdd, Nat.reduceLT, ↓us_lFnHalves, r_lFnHalves]
        have hxE := ((hxD.trans hxg).trans hxh).trans hxi
        exact hxE
  · have hN : (∀ w w' r, HalvesR n w w' l r → r = .tuple ⟨[.slice none 0 0, .slice none 0 0, .bool false]⟩) := fun w w' r hr => by
      by_cases hL : IsList n l
      · rcases he : halvesL l with _ | ⟨a, b⟩
        · exact (hr.1 hL).2 he
        · exact absurd ⟨a, b, hL, he⟩ hY
      · exact hr.2 hL
    refine m_call (iHalvesOf_ok n y l hs (by omega) _ hq) ?_
    rintro r2 w2 hx2 hr2
    obtain rfl := hN _ _ _ hr2
    simp only [↓vsd, vsn, gW, qd, qv, ev, pick, argE, zipE, ne_eq, eq_self, forall_const, implies_true, if_true, if_false, reduceIte, reduceCtorEq, Nat.reduceEqDiff, Nat.reduceAdd, Nat.reduceLT, ↓us_lFnHalves, r_lFnHalves]
    refine m_call (sHalvesOf_ok n y l hs (by omega) _ (hq.ext hx2)) ?_
    rintro r3 w3 hx3 hr3
    obtain rfl := hN _ _ _ hr3
    simp only [↓vsd, vsn, gW, qd, qv, ev, pick, argE, zipE, ne_eq, eq_self, forall_const, implies_true, if_true, if_false, reduceIte, reduceCtorEq, Nat.reduceEqDiff, Nat.reduceAdd, Nat.reduceLT, ↓us_lFnHalves, r_lFnHalves]
    refine m_call (lsameTexts_ok _ _ [] [] _ (Sq.nil fS_len) (Sq.nil fS_len) (by simp)) ?_
    rintro _ w4 hx4 rfl
    simp only [↓vsd, vsn, gW, qd, qv, ev, pick, argE, zipE, ne_eq, eq_self, forall_const, implies_true, if_true, if_false, reduceIte, reduceCtorEq, Nat.reduceEqDiff, Nat.reduceAdd, Nat.reduceLT, ↓us_lFnHalves, r_lFnHalves]
    refine m_call (lsameTexts_ok _ _ [] [] _ (Sq.nil fS_len) (Sq.nil fS_len) (by simp)) ?_
    rintro _ w5 hx5 rfl
    simp only [↓vsd, vsn, gW, qd, qv, ev, pick, argE, zipE, ne_eq, eq_self, forall_const, implies_true, if_true, if_false, reduceIte, reduceCtorEq, Nat.reduceEqDiff, Nat.reduceAdd, Nat.reduceLT, ↓us_lFnHalves, r_lFnHalves]
    have hxB := ((((hx0.trans hx1).trans hx2).trans hx3).trans hx4).trans hx5
    refine m_call (sDrawMirrorAll_ok u more hlen.2 _ (h'.ext hxB)) ?_
    rintro vm wa hxa ⟨lm, hqm, hml', hsm'⟩
    simp only [↓vsd, vsn, gW, qd, qv, ev, pick, argE, zipE, ne_eq, eq_self, forall_const, implies_true, if_true, if_false, reduceIte, reduceCtorEq, Nat.reduceEqDiff, Nat.reduceAdd, Nat.reduceLT, ↓us_lFnHalves, r_lFnHalves]
    by_cases hm41 : 2 * lm.length ≤ 41
    · refine m_call (iMirrorAll_ok vm lm (by omega) _ hqm) ?_
      rintro r1 wb hxb hr1
      obtain ⟨xm, rfl, hom⟩ := hr1.1 hm41
      simp only [↓vsd, vsn, gW, qd, qv, ev, pick, argE, zipE, ne_eq, eq_self, forall_const, implies_true, if_true, if_false, reduceIte, reduceCtorEq, Nat.reduceEqDiff, Nat.reduceAdd, Nat.reduceLT, ↓us_lFnHalves, r_lFnHalves]
      refine m_call (sMirrorAll_ok vm lm (by omega) _ (hqm.ext hxb)) ?_
      rintro r2 wc hxc hr2
      obtain ⟨xn, rfl, hon⟩ := hr2.1 hm41
      simp only [↓vsd, vsn, gW, qd, qv, ev, pick, argE, zipE, ne_eq, eq_self, forall_const, implies_true, if_true, if_false, reduceIte, reduceCtorEq, Nat.reduceEqDiff, Nat.reduceAdd, Nat.reduceLT, ↓us_lFnHalves, r_lFnHalves]
      have hmlen := mirL_len lm
      refine m_call (lsameTexts_ok xm xn _ _ _ (hom.sq.ext hxc) hon.sq (by omega)) ?_
      rintro _ wc2 hxc2 rfl
      have hq6 := (hom.sq.ext hxc).ext hxc2
      have hxB2 := (((hxB.trans hxa).trans hxb).trans hxc).trans hxc2
      have hpal := mirL_pal lm
      generalize mirL lm = L at *
      simp only [↓vsd, vsn, gW, qd, qv, ev, pick, argE, zipE, ne_eq, eq_self, forall_const, implies_true, if_true, if_false, reduceIte, reduceCtorEq, Nat.reduceEqDiff, Nat.reduceAdd, Nat.reduceLT, ↓us_lFnHalves, r_lFnHalves, hq6.facts]
      refine m_upto L.length (fun k vs w' => vs = [.int .i64 k] ∧ Ext wc2 w') ⟨rfl, Ext.refl _⟩ ?_
      rintro k vs w7 hk ⟨rfl, hx7⟩
      have hq7 := hq6.ext hx7
      by_cases hlt : k < L.length
      · have hltI : (k : Int) < L.length := by omega
        have ei : ((L.length : Nat) : Int) - 1 - (k : Nat) = ((L.length - 1 - k : Nat) : Int) := by omega
        have hp := hpal k hlt
        have hpe : L.getD k [] = L.getD (L.length - 1 - k) [] := hp
        have a1 := hq7.at1 [] hlt
        have a2 := hq7.at1 [] (show L.length - 1 - k < L.length by omega)
        simp only [↓vsd, vsn, gW, qd, qv, ev, pick, argE, zipE, ne_eq, eq_self, forall_const, implies_true, if_true, if_false, reduceIte, reduceCtorEq, Nat.reduceEqDiff, Nat.reduceAdd, Nat.reduceLT, ↓us_lFnHalves, r_lFnHalves, hq7.facts, hltI, ei, a1, a2, hpe]
        exact ⟨by omega, inR_i64 (by omega), inR_i64 (by omega), ⟨by omega, by omega⟩, inR_i64 (by omega), UpTo.next (by omega) ⟨rfl, dr hx7⟩⟩
      · have hltI : ¬ (k : Int) < L.length := by omega
        simp only [↓vsd, vsn, gW, qd, qv, ev, pick, argE, zipE, ne_eq, eq_self, forall_const, implies_true, if_true, if_false, reduceIte, reduceCtorEq, Nat.reduceEqDiff, Nat.reduceAdd, Nat.reduceLT, ↓us_lFnHalves, r_lFnHalves, hq7.facts, hltI]
        have hxC := hxB2.trans hx7
        refine m_call (sDrawTidyChange_ok u more hlen.2 _ (h'.ext hxC)) ?_
        rintro _ wd hxd ⟨i, s, rfl, hs2⟩
        simp only [↓vsd, vsn, gW, qd, qv, ev, pick, argE, zipE, ne_eq, eq_self, forall_const, implies_true, if_true, if_false, reduceIte, reduceCtorEq, Nat.reduceEqDiff, Nat.reduceAdd, Nat.reduceLT, ↓us_lFnHalves, r_lFnHalves]
        by_cases htd : TdOk i s
        · have e : tdV i s = .tuple ⟨[S (tidyL i.toNat s), .bool true]⟩ := by rw [tdV, if_pos htd, decide_eq_true htd]
          refine m_call (iTidyChange_ok i s (by omega) _) ?_
          rintro _ we hxe hre
          rw [e] at hre
          subst hre
          simp only [↓vsd, vsn, gW, qd, qv, ev, pick, argE, zipE, ne_eq, eq_self, forall_const, implies_true, if_true, if_false, reduceIte, reduceCtorEq, Nat.reduceEqDiff, Nat.reduceAdd, Nat.reduceLT, ↓us_lFnHalves, r_lFnHalves]
          refine m_call (sTidyChange_ok i s (by omega) _) ?_
          rintro _ wf hxf hrf
          rw [e] at hrf
          subst hrf
          simp only [↓vsd, vsn, gW, qd, qv, ev, pick, argE, zipE, ne_eq, eq_self, forall_const, implies_true, if_true, if_false, reduceIte, reduceCtorEq, Nat.reduceEqDiff, Nat.reduceAdd, Nat.reduceLT, ↓us_lFnHalves, r_lFnHalves]
          refine m_call (iGoodChange_ok i _ (by have := tidyL_len i.toNat s; omega) _) ?_
          rintro _ wf2 hxf2 rfl
          have hic : IsChange i (tidyL i.toNat s) := by
            have := tidyL_change htd.2
            rwa [Int.toNat_of_nonneg (by have := htd.1; omega)] at this
          simp only [↓vsd, vsn, gW, qd, qv, ev, pick, argE, zipE, ne_eq, eq_self, forall_const, implies_true, if_true, if_false, reduceIte, reduceCtorEq, Nat.reduceEqDiff, Nat.reduceAdd, Nat.reduceLT, ↓us_lFnHalves, r_lFnHalves, hic]
          have hxD := (((hxC.trans hxd).trans hxe).trans hxf).trans hxf2
          refine m_call (sDrawCountChanges_ok u more hlen.2 _ (h'.ext hxD)) ?_
          rintro _ wg hxg ⟨j, t, rfl, ht⟩
          simp only [↓vsd, vsn, gW, qd, qv, ev, pick, argE, zipE, ne_eq, eq_self, forall_const, implies_true, if_true, if_false, reduceIte, reduceCtorEq, Nat.reduceEqDiff, Nat.reduceAdd, Nat.reduceLT, ↓us_lFnHalves, r_lFnHalves]
          refine m_call (iCountChanges_ok j t (by omega) _) ?_
          rintro _ wh hxh rfl
          rw [cntV]
          simp only [↓vsd, vsn, gW, qd, qv, ev, pick, argE, zipE, ne_eq, eq_self, forall_const, implies_true, if_true, if_false, reduceIte, reduceCtorEq, Nat.reduceEqDiff, Nat.reduceAdd, Nat.reduceLT, ↓us_lFnHalves, r_lFnHalves]
          refine m_call (sCountChanges_ok j t (by omega) _) ?_
          rintro _ wi hxi rfl
          rw [cntV]
          simp only [↓vsd, vsn, gW, qd, qv, ev, pick, argE, zipE, ne_eq, eq_self, forall_const, implies_true, if_true, if_false, reduceIte, reduceCtorEq, Nat.reduceEqDiff, Nat.reduceAdd, Nat.reduceLT, ↓us_lFnHalves, r_lFnHalves]
          have hxE := ((hxD.trans hxg).trans hxh).trans hxi
          exact hxE
        · refine m_call (iTidyChange_ok i s (by omega) _) ?_
          rintro _ we hxe hre
          rw [tdV_no htd] at hre
          subst hre
          simp only [↓vsd, vsn, gW, qd, qv, ev, pick, argE, zipE, ne_eq, eq_self, forall_const, implies_true, if_true, if_false, reduceIte, reduceCtorEq, Nat.reduceEqDiff, Nat.reduceAdd, Nat.reduceLT, ↓us_lFnHalves, r_lFnHalves]
          refine m_call (sTidyChange_ok i s (by omega) _) ?_
          rintro _ wf hxf hrf
          rw [tdV_no htd] at hrf
          subst hrf
          simp only [↓vsd, vsn, gW, qd, qv, ev, pick, argE, zipE, ne_eq, eq_self, forall_const, implies_true, if_true, if_false, reduceIte, reduceCtorEq, Nat.reduceEqDiff, Nat.reduceAdd, Nat.reduceLT, ↓us_lFnHalves, r_lFnHalves]
          have hxD := ((hxC.trans hxd).trans hxe).trans hxf
          refine m_call (sDrawCountChanges_ok u more hlen.2 _ (h'.ext hxD)) ?_
          rintro _ wg hxg ⟨j, t, rfl, ht⟩
          simp only [↓vsd, vsn, gW, qd, qv, ev, pick, argE, zipE, ne_eq, eq_self, forall_const, implies_true, if_true, if_false, reduceIte, reduceCtorEq, Nat.reduceEqDiff, Nat.reduceAdd, Nat.reduceLT, ↓us_lFnHalves, r_lFnHalves]
          refine m_call (iCountChanges_ok j t (by omega) _) ?_
          rintro _ wh hxh rfl
          rw [cntV]
          simp only [↓vsd, vsn, gW, qd, qv, ev, pick, argE, zipE, ne_eq, eq_self, forall_const, implies_true, if_true, if_false, reduceIte, reduceCtorEq, Nat.reduceEqDiff, Nat.reduceAdd, Nat.reduceLT, ↓us_lFnHalves, r_lFnHalves]
          refine m_call (sCountChanges_ok j t (by omega) _) ?_
          rintro _ wi hxi rfl
          rw [cntV]
          simp only [↓vsd, vsn, gW, qd, qv, ev, pick, argE, zipE, ne_eq, eq_self, forall_const, implies_true, if_true, if_false, reduceIte, reduceCtorEq, Nat.reduceEqDiff, Nat.reduceAdd, Nat.reduceLT, ↓us_lFnHalves, r_lFnHalves]
          have hxE := ((hxD.trans hxg).trans hxh).trans hxi
          exact hxE
    · refine m_call (iMirrorAll_ok vm lm (by omega) _ hqm) ?_
      rintro r1 wb hxb hr1
      obtain rfl := hr1.2 hm41
      simp only [↓vsd, vsn, gW, qd, qv, ev, pick, argE, zipE, ne_eq, eq_self, forall_const, implies_true, if_true, if_false, reduceIte, reduceCtorEq, Nat.reduceEqDiff, Nat.reduceAdd, Nat.reduceLT, ↓us_lFnHalves, r_lFnHalves]
      refine m_call (sMirrorAll_ok vm lm (by omega) _ (hqm.ext hxb)) ?_
      rintro r2 wc hxc hr2
      obtain rfl := hr2.2 hm41
      simp only [↓vsd, vsn, gW, qd, qv, ev, pick, argE, zipE, ne_eq, eq_self, forall_const, implies_true, if_true, if_false, reduceIte, reduceCtorEq, Nat.reduceEqDiff, Nat.reduceAdd, Nat.reduceLT, ↓us_lFnHalves, r_lFnHalves]
      refine m_call (lsameTexts_ok _ _ [] [] _ (Sq.nil fS_len) (Sq.nil fS_len) (by simp)) ?_
      rintro _ wc2 hxc2 rfl
      have hxB2 := (((hxB.trans hxa).trans hxb).trans hxc).trans hxc2
      simp only [↓vsd, vsn, gW, qd, qv, ev, pick, argE, zipE, ne_eq, eq_self, forall_const, implies_true, if_true, if_false, reduceIte, reduceCtorEq, Nat.reduceEqDiff, Nat.reduceAdd, Nat.reduceLT, ↓us_lFnHalves, r_lFnHalves]
      refine m_upto 0 (fun k vs w' => vs = [.int .i64 k] ∧ Ext wc2 w') ⟨rfl, Ext.refl _⟩ ?_
      rintro k vs w7 hk ⟨rfl, hx7⟩
      have hltI : ¬ (k : Int) < ((0 : Nat) : Int) := by omega
      simp only [↓vsd, vsn, gW, qd, qv, ev, pick, argE, zipE, ne_eq, eq_self, forall_const, implies_true, if_true, if_false, reduceIte, reduceCtorEq, Nat.reduceEqDiff, Nat.reduceAdd, Nat.reduceLT, ↓us_lFnHalves, r_lFnHalves, hltI]
      have hxC := hxB2.trans hx7
      refine m_call (sDrawTidyChange_ok u more hlen.2 _ (h'.ext hxC)) ?_
      rintro _ wd hxd ⟨i, s, rfl, hs2⟩
      simp only [↓vsd, vsn, gW, qd, qv, ev, pick, argE, zipE, ne_eq, eq_self, forall_const, implies_true, if_true, if_false, reduceIte, reduceCtorEq, Nat.reduceEqDiff, Nat.reduceAdd, Nat.reduceLT, ↓us_lFnHalves, r_lFnHalves]
      by_cases htd : TdOk i s
      · have e : tdV i s = .tuple ⟨[S (tidyL i.toNat s), .bool true]⟩ := by rw [tdV, if_pos htd, decide_eq_true htd]
        refine m_call (iTidyChange_ok i s (by omega) _) ?_
        rintro _ we hxe hre
        rw [e] at hre
        subst hre
        simp only [↓vsd, vsn, gW, qd, qv, ev, pick, argE, zipE, ne_eq, eq_self, forall_const, implies_true, if_true, if_false, reduceIte, reduceCtorEq, Nat.reduceEqDiff, Nat.reduceAdd, Nat.reduceLT, ↓us_lFnHalves, r_lFnHalves]
        refine m_call (sTidyChange_ok i s (by omega) _) ?_
        rintro _ wf hxf hrf
        rw [e] at hrf
        subst hrf
        simp only [↓vsd, vsn, gW, qd, qv, ev, pick, argE, zipE, ne_eq, eq_self, forall_const, implies_true, if_true, if_false, reduceIte, reduceCtorEq, Nat.reduceEqDiff, Nat.reduceAdd, Nat.reduceLT, ↓us_lFnHalves, r_lFnHalves]
        refine m_call (iGoodChange_ok i _ (by have := tidyL_len i.toNat s; omega) _) ?_
        rintro _ wf2 hxf2 rfl
        have hic : IsChange i (tidyL i.toNat s) := by
          have := tidyL_change htd.2
          rwa [Int.toNat_of_nonneg (by have := htd.1; omega)] at this
        simp only [↓vsd, vsn, gW, qd, qv, ev, pick, argE, zipE, ne_eq, eq_self, forall_const, implies_true, if_true, if_false, reduceIte, reduceCtorEq, Nat.reduceEqDiff, Nat.reduceAdd, Nat.reduceLT, ↓us_lFnHalves, r_lFnHalves, hic]
        have hxD := (((hxC.trans hxd).trans hxe).trans hxf).trans hxf2
        refine m_call (sDrawCountChanges_ok u more hlen.2 _ (h'.ext hxD)) ?_
        rintro _ wg hxg ⟨j, t, rfl, ht⟩
        simp only [↓vsd, vsn, gW, qd, qv, ev, pick, argE, zipE, ne_eq, eq_self, forall_const, implies_true, if_true, if_false, reduceIte, reduceCtorEq, Nat.reduceEqDiff, Nat.reduceAdd, Nat.reduceLT, ↓us_lFnHalves, r_lFnHalves]
        refine m_call (iCountChanges_ok j t (by omega) _) ?_
        rintro _ wh hxh rfl
        rw [cntV]
        simp only [↓vsd, vsn, gW, qd, qv, ev, pick, argE, zipE, ne_eq, eq_self, forall_const, implies_true, if_true, if_false, reduceIte, reduceCtorEq, Nat.reduceEqDiff, Nat.reduceAdd, Nat.reduceLT, ↓us_lFnHalves, r_lFnHalves]
        refine m_call (sCountChanges_ok j t (by omega) _) ?_
        rintro _ wi hxi rfl
        rw [cntV]
        simp only [↓vsd, vsn, gW, qd, qv, ev, pick, argE, zipE, ne_eq, eq_self, forall_const, implies_true, if_true, if_false, reduceIte, reduceCtorEq, Nat.reduceEqDiff, Nat.reduceAdd, Nat.reduceLT, ↓us_lFnHalves, r_lFnHalves]
        have hxE := ((hxD.trans hxg).trans hxh).trans hxi
        exact hxE
      · refine m_call (iTidyChange_ok i s (by omega) _) ?_
        rintro _ we hxe hre
        rw [tdV_no htd] at hre
        subst hre
        simp only [↓vsd, vsn, gW, qd, qv, ev, pick, argE, zipE, ne_eq, eq_self, forall_const, implies_true, if_true, if_false, reduceIte, reduceCtorEq, Nat.reduceEqDiff, Nat.reduceAdd, Nat.reduceLT, ↓us_lFnHalves, r_lFnHalves]
        refine m_call (sTidyChange_ok i s (by omega) _) ?_
        rintro _ wf hxf hrf
        rw [tdV_no htd] at hrf
        subst hrf
        simp only [↓vsd, vsn, gW, qd, qv, ev, pick, argE, zipE, ne_eq, eq_self, forall_const, implies_true, if_true, if_false, reduceIte, reduceCtorEq, Nat.reduceEqDiff, Nat.reduceAdd, Nat.reduceLT, ↓us_lFnHalves, r_lFnHalves]
        have hxD := ((hxC.trans hxd).trans hxe).trans hxf
        refine m_call (sDrawCountChanges_ok u more hlen.2 _ (h'.ext hxD)) ?_
        rintro _ wg hxg ⟨j, t, rfl, ht⟩
        simp only [↓vsd, vsn, gW, qd, qv, ev, pick, argE, zipE, ne_eq, eq_self, forall_const, implies_true, if_true, if_false, reduceIte, reduceCtorEq, Nat.reduceEqDiff, Nat.reduceAdd, Nat.reduceLT, ↓us_lFnHalves, r_lFnHalves]
        refine m_call (iCountChanges_ok j t (by omega) _) ?_
        rintro _ wh hxh rfl
        rw [cntV]
        simp only [↓vsd, vsn, gW, qd, qv, ev, pick, argE, zipE, ne_eq, eq_self, forall_const, implies_true, if_true, if_false, reduceIte, reduceCtorEq, Nat.reduceEqDiff, Nat.reduceAdd, Nat.reduceLT, ↓us_lFnHalves, r_lFnHalves]
        refine m_call (sCountChanges_ok j t (by omega) _) ?_
        rintro _ wi hxi rfl
        rw [cntV]
        simp only [↓vsd, vsn, gW, qd, qv, ev, pick, argE, zipE, ne_eq, eq_self, forall_const, implies_true, if_true, if_false, reduceIte, reduceCtorEq, Nat.reduceEqDiff, Nat.reduceAdd, Nat.reduceLT, ↓us_lFnHalves, r_lFnHalves]
        have hxE := ((hxD.trans hxg).trans hxh).trans hxi
        exact hxE
end Go.Proofs.Ytfklonhjgkahdaa
