/-
  The law FnSplice.
  Conditions: none.
-/
import Derived.Test.YthopbkemkfjebaaGreatKA35
import Derived.Test.YthopbkemkfjebaaGreatKA36
import Derived.Test.YthopbkemkfjebaaGreatKA85
import Derived.Test.YthopbkemkfjebaaGreatKA88
import Derived.Test.YthopbkemkfjebaaGreatKA91
import Derived.Test.YthopbkemkfjebaaGreatKD23
import Derived.Test.YthopbkemkfjebaaGreatKD51
set_option linter.unusedSimpArgs false
set_option linter.unusedVariables false
set_option linter.defProp false
namespace Go.Proofs.YthopbkemkfjebaaGreat
open Go Go.RowKit
section
variable (P : Program) (k : KT) (e : Env) (w : World)
abbrev b30_1 : X := (.seq (.reg [4] (.c (.q 5 [] (.lda 3 (.t 2))) (.c (.q 6 [] (.lda 2 (.t 3))) (.c (.e (some 7) [] (.call false 82 [(.t 5), (.t 6)])) (.c (.q 4 [] (.mv (.t 7))) .nil))))) .ret)
def t30_1 := b30_1
theorem u30_1 : vcK P t30_1 k e w = vcK P b30_1 k e w := rfl
abbrev b30_0 : X := (.seq (.reg [2, 3] (.c (.e (some 2) [] (.box 25 (.t 0))) (.c (.e (some 3) [] (.box 27 (.t 1))) (.c (.q 4 [] (.mv (.c (.bool false)))) .nil)))) t30_1)
def x_sGoodCalls := b30_0
theorem u30_0 : vcK P x_sGoodCalls k e w = vcK P b30_0 k e w := rfl
def r_sGoodCalls : List XO := [(.mv (.t 4))]
theorem c_sGoodCalls : convF Tryz.prog [56, 58, 59, 60, 61, 62, 72, 73, 77, 97, 98, 109, 110, 111, 112, 115, 128, 136] Tryz.f30 [([2, 3], []), ([4], [])] = some (x_sGoodCalls, r_sGoodCalls) := by kernel_rfl
def us_sGoodCalls :=  (aI @u30_0 @u30_1)
abbrev b4_1 : X := (.cond (.t 41) (.seq (.reg [4] (.c (.q 4 [] (.mv (.c (.bool true)))) .nil)) .ret) .skip)
def t4_1 := b4_1
theorem u4_1 : vcK P t4_1 k e w = vcK P b4_1 k e w := rfl
abbrev b4_2 : X := (.cond (.t 127) (.seq (.reg [4] (.c (.q 4 [] (.mv (.c (.bool false)))) .nil)) .ret) .skip)
def t4_2 := b4_2
theorem u4_2 : vcK P t4_2 k e w = vcK P b4_2 k e w := rfl
abbrev b4_3 : X := (.reg [5, 6, 7, 9, 10, 19, 24, 129, 130, 131] (.c (.q 135 [] (.mv (.t 24))) (.c (.q 136 [] (.mv (.t 26))) (.c (.q 137 [] (.bin .add (.t 135) (.t 136))) (.c (.q 24 [] (.mv (.t 137))) .nil)))))
def t4_3 := b4_3
theorem u4_3 : vcK P t4_3 k e w = vcK P b4_3 k e w := rfl
abbrev b4_4 : X := (.reg [5, 6, 7, 9, 10, 19, 24, 129, 130, 131] (.c (.q 138 [] (.bin .add (.t 131) (.c (.int .i64 1)))) (.c (.q 131 [] (.mv (.t 138))) .nil)))
def t4_4 := b4_4
theorem u4_4 : vcK P t4_4 k e w = vcK P b4_4 k e w := rfl
abbrev b4_5 : X := (.seq (.blk 1 (.seq (.reg [5, 6, 7, 9, 10, 19, 24, 26, 129, 130, 131] (.c (.q 133 [] (.ia 1 (.t 129) (.t 131))) (.c (.q 134 [] (.ld (.t 133))) (.c (.q 26 [] (.mv (.t 134))) .nil)))) t4_3)) t4_4)
def t4_5 := b4_5
theorem u4_5 : vcK P t4_5 k e w = vcK P b4_5 k e w := rfl
abbrev b4_6 : X := (.seq (.cond (.t 132) .skip (.exit 0)) t4_5)
def t4_6 := b4_6
theorem u4_6 : vcK P t4_6 k e w = vcK P b4_6 k e w := rfl
abbrev b4_7 : X := (.seq (.reg [5, 6, 7, 9, 10, 19, 24, 129, 130, 131, 132] (.c (.q 132 [] (.bin .lss (.t 131) (.t 130))) .nil)) t4_6)
def t4_7 := b4_7
theorem u4_7 : vcK P t4_7 k e w = vcK P b4_7 k e w := rfl
abbrev b4_8 : X := (.blk 0 (.loop [24, 131] [5, 6, 7, 9, 10, 19, 129, 130] t4_7))
def t4_8 := b4_8
theorem u4_8 : vcK P t4_8 k e w = vcK P b4_8 k e w := rfl
abbrev b4_9 : X := (.cond (.t 143) (.seq (.reg [4] (.c (.q 4 [] (.mv (.c (.bool false)))) .nil)) .ret) .skip)
def t4_9 := b4_9
theorem u4_9 : vcK P t4_9 k e w = vcK P b4_9 k e w := rfl
abbrev b4_10 : X := (.seq (.reg [5, 6, 7, 9, 10, 143] (.c (.q 139 [] (.mv (.t 24))) (.c (.q 140 [] (.bin .mul (.c (.int .i64 2)) (.t 139))) (.c (.q 141 [] (.mv (.t 19))) (.c (.q 142 [] (.len (.t 141))) (.c (.q 143 [] (.bin .neq (.t 140) (.t 142))) .nil)))))) t4_9)
def t4_10 := b4_10
theorem u4_10 : vcK P t4_10 k e w = vcK P b4_10 k e w := rfl
abbrev b4_11 : X := (.seq (.seq (.reg [5, 6, 7, 9, 10, 19, 24, 129, 130, 131] (.c (.q 129 [] (.mv (.t 20))) (.c (.q 130 [] (.lens (.t 129))) (.c (.q 131 [] (.mv (.c (.int .i64 0)))) .nil)))) t4_8) t4_10)
def t4_11 := b4_11
theorem u4_11 : vcK P t4_11 k e w = vcK P b4_11 k e w := rfl
abbrev b4_12 : X := (.cond (.t 128) (.seq (.reg [5, 6, 7, 9, 10, 19, 20, 24] (.c (.q 24 [] (.mv (.c (.int .i64 0)))) .nil)) t4_11) .skip)
def t4_12 := b4_12
theorem u4_12 : vcK P t4_12 k e w = vcK P b4_12 k e w := rfl
abbrev b4_13 : X := (.cond (.t 151) (.seq (.reg [4] (.c (.q 4 [] (.mv (.c (.bool true)))) .nil)) .ret) .skip)
def t4_13 := b4_13
theorem u4_13 : vcK P t4_13 k e w = vcK P b4_13 k e w := rfl
abbrev b4_14 : X := (.seq (.reg [4] (.c (.q 185 [] (.mv (.t 29))) (.c (.q 186 [] (.mv (.t 185))) (.c (.q 187 [(186, true)] (.mv (.t 31))) (.c (.q 188 [] (.pick (.t 186) (.t 187) (.c (.bool false)))) (.c (.q 189 [] (.mv (.t 188))) (.c (.q 190 [(189, true)] (.mv (.t 33))) (.c (.q 191 [] (.pick (.t 189) (.t 190) (.c (.bool false)))) (.c (.q 192 [] (.mv (.t 191))) (.c (.q 193 [(192, true)] (.mv (.t 35))) (.c (.q 194 [] (.pick (.t 192) (.t 193) (.c (.bool false)))) (.c (.q 195 [] (.mv (.t 194))) (.c (.q 196 [(195, true)] (.mv (.t 28))) (.c (.q 197 [(195, true)] (.mv (.t 30))) (.c (.e (some 198) [(195, true)] (.call false 34 [(.t 196), (.t 197)])) (.c (.q 199 [] (.pick (.t 195) (.t 198) (.c (.bool false)))) (.c (.q 200 [] (.mv (.t 199))) (.c (.q 201 [(200, true)] (.mv (.t 32))) (.c (.q 202 [(200, true)] (.mv (.t 34))) (.c (.q 203 [(200, true)] (.beq false (.t 201) (.t 202))) (.c (.q 204 [] (.pick (.t 200) (.t 203) (.c (.bool false)))) (.c (.q 4 [] (.mv (.t 204))) .nil)))))))))))))))))))))) .ret)
def t4_14 := b4_14
theorem u4_14 : vcK P t4_14 k e w = vcK P b4_14 k e w := rfl
abbrev b4_15 : X := (.seq (.reg [28, 29, 30, 31, 32, 33, 34, 35] (.c (.q 179 [] (.lda 3 (.t 5))) (.c (.q 180 [] (.lda 2 (.t 6))) (.c (.q 181 [] (.mv (.t 7))) (.c (.e (some 182) [] (.call false 8 [(.t 179), (.t 180), (.t 181)])) (.c (.q 178 [] (.mv (.t 182))) (.c (.q 183 [] (.ext 0 (.t 178))) (.c (.q 184 [] (.ext 1 (.t 178))) (.c (.q 34 [] (.mv (.t 183))) (.c (.q 35 [] (.mv (.t 184))) .nil)))))))))) t4_14)
def t4_15 := b4_15
theorem u4_15 : vcK P t4_15 k e w = vcK P b4_15 k e w := rfl
abbrev b4_16 : X := (.seq (.reg [5, 6, 7, 28, 29, 30, 31, 32, 33] (.c (.q 172 [] (.mv (.t 27))) (.c (.q 173 [] (.lda 2 (.t 6))) (.c (.q 174 [] (.mv (.t 9))) (.c (.e (some 175) [] (.call false 33 [(.t 172), (.t 173), (.t 174)])) (.c (.q 171 [] (.mv (.t 175))) (.c (.q 176 [] (.ext 0 (.t 171))) (.c (.q 177 [] (.ext 1 (.t 171))) (.c (.q 32 [] (.mv (.t 176))) (.c (.q 33 [] (.mv (.t 177))) .nil)))))))))) t4_15)
def t4_16 := b4_16
theorem u4_16 : vcK P t4_16 k e w = vcK P b4_16 k e w := rfl
abbrev b4_17 : X := (.seq (.reg [5, 6, 7, 9, 27, 28, 29, 30, 31] (.c (.q 165 [] (.lda 3 (.t 5))) (.c (.q 166 [] (.lda 2 (.t 6))) (.c (.q 167 [] (.mv (.t 7))) (.c (.e (some 168) [] (.call false 32 [(.t 165), (.t 166), (.t 167)])) (.c (.q 164 [] (.mv (.t 168))) (.c (.q 169 [] (.ext 0 (.t 164))) (.c (.q 170 [] (.ext 1 (.t 164))) (.c (.q 30 [] (.mv (.t 169))) (.c (.q 31 [] (.mv (.t 170))) .nil)))))))))) t4_16)
def t4_17 := b4_17
theorem u4_17 : vcK P t4_17 k e w = vcK P b4_17 k e w := rfl
abbrev b4_18 : X := (.seq (.reg [5, 6, 7, 9, 27, 28, 29] (.c (.q 158 [] (.mv (.t 27))) (.c (.q 159 [] (.lda 2 (.t 6))) (.c (.q 160 [] (.mv (.t 9))) (.c (.e (some 161) [] (.call false 31 [(.t 158), (.t 159), (.t 160)])) (.c (.q 157 [] (.mv (.t 161))) (.c (.q 162 [] (.ext 0 (.t 157))) (.c (.q 163 [] (.ext 1 (.t 157))) (.c (.q 28 [] (.mv (.t 162))) (.c (.q 29 [] (.mv (.t 163))) .nil)))))))))) t4_17)
def t4_18 := b4_18
theorem u4_18 : vcK P t4_18 k e w = vcK P b4_18 k e w := rfl
abbrev b4_19 : X := (.seq (.reg [5, 6, 7, 9, 27] (.c (.q 152 [] (.lda 3 (.t 5))) (.c (.q 153 [] (.lda 3 (.t 5))) (.c (.q 154 [] (.lda 3 (.t 5))) (.c (.q 155 [] (.lda 3 (.t 5))) (.c (.e (some 156) [] (.bsl 25 3 [(.t 152), (.t 153), (.t 154), (.t 155)])) (.c (.q 27 [] (.mv (.t 156))) .nil))))))) t4_18)
def t4_19 := b4_19
theorem u4_19 : vcK P t4_19 k e w = vcK P b4_19 k e w := rfl
abbrev b4_20 : X := (.seq (.seq (.reg [5, 6, 7, 9, 151] (.c (.q 144 [] (.mv (.t 10))) (.c (.q 145 [] (.not (.t 144))) (.c (.q 146 [] (.mv (.t 145))) (.c (.q 147 [(146, false)] (.lda 3 (.t 5))) (.c (.q 148 [(146, false)] (.lda 2 (.t 6))) (.c (.e (some 149) [(146, false)] (.call false 30 [(.t 147), (.t 148)])) (.c (.q 150 [(146, false)] (.not (.t 149))) (.c (.q 151 [] (.pick (.t 146) (.c (.bool true)) (.t 150))) .nil))))))))) t4_13) t4_19)
def t4_20 := b4_20
theorem u4_20 : vcK P t4_20 k e w = vcK P b4_20 k e w := rfl
abbrev b4_21 : X := (.seq (.seq (.reg [5, 6, 7, 9, 10, 19, 20, 128] (.c (.q 128 [] (.mv (.t 21))) .nil)) t4_12) t4_20)
def t4_21 := b4_21
theorem u4_21 : vcK P t4_21 k e w = vcK P b4_21 k e w := rfl
abbrev b4_22 : X := (.seq (.seq (.reg [5, 6, 7, 9, 10, 19, 20, 21, 127] (.c (.q 92 [] (.mv (.t 10))) (.c (.q 93 [] (.mv (.t 12))) (.c (.q 94 [] (.beq true (.t 92) (.t 93))) (.c (.q 95 [] (.mv (.t 94))) (.c (.q 96 [(95, false)] (.mv (.t 9))) (.c (.q 97 [(95, false)] (.mv (.t 11))) (.c (.q 98 [(95, false)] (.bin .neq (.t 96) (.t 97))) (.c (.q 99 [] (.pick (.t 95) (.c (.bool true)) (.t 98))) (.c (.q 100 [] (.mv (.t 99))) (.c (.q 101 [(100, false)] (.mv (.t 15))) (.c (.q 102 [(100, false)] (.mv (.t 17))) (.c (.q 103 [(100, false)] (.beq true (.t 101) (.t 102))) (.c (.q 104 [] (.pick (.t 100) (.c (.bool true)) (.t 103))) (.c (.q 105 [] (.mv (.t 104))) (.c (.q 106 [(105, false)] (.mv (.t 14))) (.c (.q 107 [(105, false)] (.mv (.t 16))) (.c (.q 108 [(105, false)] (.bin .neq (.t 106) (.t 107))) (.c (.q 109 [] (.pick (.t 105) (.c (.bool true)) (.t 108))) (.c (.q 110 [] (.mv (.t 109))) (.c (.q 111 [(110, false)] (.mv (.t 21))) (.c (.q 112 [(110, false)] (.mv (.t 23))) (.c (.q 113 [(110, false)] (.beq true (.t 111) (.t 112))) (.c (.q 114 [] (.pick (.t 110) (.c (.bool true)) (.t 113))) (.c (.q 115 [] (.mv (.t 114))) (.c (.q 116 [(115, false)] (.mv (.t 20))) (.c (.q 117 [(115, false)] (.mv (.t 22))) (.c (.e (some 118) [(115, false)] (.call false 14 [(.t 116), (.t 117)])) (.c (.q 119 [(115, false)] (.not (.t 118))) (.c (.q 120 [] (.pick (.t 115) (.c (.bool true)) (.t 119))) (.c (.q 121 [] (.mv (.t 120))) (.c (.q 122 [(121, false)] (.mv (.t 18))) (.c (.q 123 [(121, false)] (.mv (.t 19))) (.c (.e (some 124) [(121, false)] (.call false 29 [(.t 122), (.t 123)])) (.c (.q 125 [(121, false)] (.mv (.t 21))) (.c (.q 126 [(121, false)] (.beq true (.t 124) (.t 125))) (.c (.q 127 [] (.pick (.t 121) (.c (.bool true)) (.t 126))) .nil))))))))))))))))))))))))))))))))))))) t4_2) t4_21)
def t4_22 := b4_22
theorem u4_22 : vcK P t4_22 k e w = vcK P b4_22 k e w := rfl
abbrev b4_23 : X := (.seq (.reg [5, 6, 7, 9, 10, 11, 12, 14, 15, 16, 17, 18, 19, 20, 21, 22, 23] (.c (.q 87 [] (.mv (.t 18))) (.c (.q 88 [] (.mv (.t 19))) (.c (.e (some 89) [] (.call false 28 [(.t 87), (.t 88)])) (.c (.q 86 [] (.mv (.t 89))) (.c (.q 90 [] (.ext 0 (.t 86))) (.c (.q 91 [] (.ext 1 (.t 86))) (.c (.q 22 [] (.mv (.t 90))) (.c (.q 23 [] (.mv (.t 91))) .nil))))))))) t4_22)
def t4_23 := b4_23
theorem u4_23 : vcK P t4_23 k e w = vcK P b4_23 k e w := rfl
abbrev b4_24 : X := (.seq (.reg [5, 6, 7, 9, 10, 11, 12, 14, 15, 16, 17, 18, 19, 20, 21] (.c (.q 81 [] (.mv (.t 18))) (.c (.q 82 [] (.mv (.t 19))) (.c (.e (some 83) [] (.call false 27 [(.t 81), (.t 82)])) (.c (.q 80 [] (.mv (.t 83))) (.c (.q 84 [] (.ext 0 (.t 80))) (.c (.q 85 [] (.ext 1 (.t 80))) (.c (.q 20 [] (.mv (.t 84))) (.c (.q 21 [] (.mv (.t 85))) .nil))))))))) t4_23)
def t4_24 := b4_24
theorem u4_24 : vcK P t4_24 k e w = vcK P b4_24 k e w := rfl
abbrev b4_25 : X := (.seq (.reg [5, 6, 7, 9, 10, 11, 12, 14, 15, 16, 17, 18, 19] (.c (.q 76 [] (.mv (.t 1))) (.c (.e (some 77) [] (.call false 26 [(.t 76)])) (.c (.q 75 [] (.mv (.t 77))) (.c (.q 78 [] (.ext 0 (.t 75))) (.c (.q 79 [] (.ext 1 (.t 75))) (.c (.q 18 [] (.mv (.t 78))) (.c (.q 19 [] (.mv (.t 79))) .nil)))))))) t4_24)
def t4_25 := b4_25
theorem u4_25 : vcK P t4_25 k e w = vcK P b4_25 k e w := rfl
abbrev b4_26 : X := (.seq (.reg [1, 5, 6, 7, 9, 10, 11, 12, 14, 15, 16, 17] (.c (.q 71 [] (.mv (.t 13))) (.c (.e (some 72) [] (.call false 25 [(.t 71)])) (.c (.q 70 [] (.mv (.t 72))) (.c (.q 73 [] (.ext 0 (.t 70))) (.c (.q 74 [] (.ext 1 (.t 70))) (.c (.q 16 [] (.mv (.t 73))) (.c (.q 17 [] (.mv (.t 74))) .nil)))))))) t4_25)
def t4_26 := b4_26
theorem u4_26 : vcK P t4_26 k e w = vcK P b4_26 k e w := rfl
abbrev b4_27 : X := (.seq (.reg [1, 5, 6, 7, 9, 10, 11, 12, 13, 14, 15] (.c (.q 66 [] (.mv (.t 13))) (.c (.e (some 67) [] (.call false 24 [(.t 66)])) (.c (.q 65 [] (.mv (.t 67))) (.c (.q 68 [] (.ext 0 (.t 65))) (.c (.q 69 [] (.ext 1 (.t 65))) (.c (.q 14 [] (.mv (.t 68))) (.c (.q 15 [] (.mv (.t 69))) .nil)))))))) t4_26)
def t4_27 := b4_27
theorem u4_27 : vcK P t4_27 k e w = vcK P b4_27 k e w := rfl
abbrev b4_28 : X := (.seq (.reg [1, 5, 6, 7, 9, 10, 11, 12, 13] (.c (.q 63 [] (.mv (.t 1))) (.c (.e (some 64) [] (.call false 23 [(.t 63)])) (.c (.q 13 [] (.mv (.t 64))) .nil)))) t4_27)
def t4_28 := b4_28
theorem u4_28 : vcK P t4_28 k e w = vcK P b4_28 k e w := rfl
abbrev b4_29 : X := (.seq (.reg [1, 5, 6, 7, 9, 10, 11, 12] (.c (.q 58 [] (.mv (.t 7))) (.c (.q 59 [] (.mv (.t 8))) (.c (.e (some 60) [] (.call false 22 [(.t 58), (.t 59)])) (.c (.q 57 [] (.mv (.t 60))) (.c (.q 61 [] (.ext 0 (.t 57))) (.c (.q 62 [] (.ext 1 (.t 57))) (.c (.q 11 [] (.mv (.t 61))) (.c (.q 12 [] (.mv (.t 62))) .nil))))))))) t4_28)
def t4_29 := b4_29
theorem u4_29 : vcK P t4_29 k e w = vcK P b4_29 k e w := rfl
abbrev b4_30 : X := (.seq (.reg [1, 5, 6, 7, 8, 9, 10] (.c (.q 52 [] (.mv (.t 7))) (.c (.q 53 [] (.mv (.t 8))) (.c (.e (some 54) [] (.call false 21 [(.t 52), (.t 53)])) (.c (.q 51 [] (.mv (.t 54))) (.c (.q 55 [] (.ext 0 (.t 51))) (.c (.q 56 [] (.ext 1 (.t 51))) (.c (.q 9 [] (.mv (.t 55))) (.c (.q 10 [] (.mv (.t 56))) .nil))))))))) t4_29)
def t4_30 := b4_30
theorem u4_30 : vcK P t4_30 k e w = vcK P b4_30 k e w := rfl
abbrev b4_31 : X := (.seq (.reg [1, 5, 6, 7, 8] (.c (.q 48 [] (.mv (.t 1))) (.c (.e (some 49) [] (.call false 20 [(.t 48)])) (.c (.q 50 [] (.bin .rem (.t 49) (.c (.int .i64 4)))) (.c (.q 8 [] (.mv (.t 50))) .nil))))) t4_30)
def t4_31 := b4_31
theorem u4_31 : vcK P t4_31 k e w = vcK P b4_31 k e w := rfl
abbrev b4_32 : X := (.seq (.reg [1, 5, 6, 7] (.c (.q 43 [] (.mv (.t 0))) (.c (.e (some 44) [] (.call false 19 [(.t 43)])) (.c (.q 42 [] (.mv (.t 44))) (.c (.q 45 [] (.ext 0 (.t 42))) (.c (.q 46 [] (.ext 1 (.t 42))) (.c (.q 47 [] (.ext 2 (.t 42))) (.c (.e (some 5) [] (.al 25 [(S []), (.int .i64 0), (.slice none 0 0)])) (.c (.e (some 6) [] (.al 27 [(S []), (S [])])) (.c (.e none [] (.st 3 (.t 5) (.t 45))) (.c (.e none [] (.st 2 (.t 6) (.t 46))) (.c (.q 7 [] (.mv (.t 47))) .nil)))))))))))) t4_31)
def t4_32 := b4_32
theorem u4_32 : vcK P t4_32 k e w = vcK P b4_32 k e w := rfl
abbrev b4_33 : X := (.seq (.seq (.reg [0, 1, 41] (.c (.q 36 [] (.mv (.t 0))) (.c (.q 37 [] (.lens (.t 36))) (.c (.q 38 [] (.mv (.t 1))) (.c (.q 39 [] (.lens (.t 38))) (.c (.q 40 [] (.bin .add (.t 37) (.t 39))) (.c (.q 41 [] (.bin .gtr (.t 40) (.c (.int .i64 1048576)))) .nil))))))) t4_1) t4_32)
def t4_33 := b4_33
theorem u4_33 : vcK P t4_33 k e w = vcK P b4_33 k e w := rfl
abbrev b4_0 : X := (.seq (.reg [0, 1] (.c (.q 4 [] (.mv (.c (.bool false)))) .nil)) t4_33)
def x_lFnSplice := b4_0
theorem u4_0 : vcK P x_lFnSplice k e w = vcK P b4_0 k e w := rfl
def r_lFnSplice : List XO := [(.mv (.t 4))]
theorem c_lFnSplice : convF Tryz.prog [56, 58, 59, 60, 61, 62, 72, 73, 77, 97, 98, 109, 110, 111, 112, 115, 128, 136] Tryz.f4 [([0, 1], []), ([0, 1, 41], []), ([4], []), ([1, 5, 6, 7], []), ([1, 5, 6, 7, 8], []), ([1, 5, 6, 7, 8, 9, 10], []), ([1, 5, 6, 7, 9, 10, 11, 12], []), ([1, 5, 6, 7, 9, 10, 11, 12, 13], []), ([1, 5, 6, 7, 9, 10, 11, 12, 13, 14, 15], []), ([1, 5, 6, 7, 9, 10, 11, 12, 14, 15, 16, 17], []), ([5, 6, 7, 9, 10, 11, 12, 14, 15, 16, 17, 18, 19], []), ([5, 6, 7, 9, 10, 11, 12, 14, 15, 16, 17, 18, 19, 20, 21], []), ([5, 6, 7, 9, 10, 11, 12, 14, 15, 16, 17, 18, 19, 20, 21, 22, 23], []), ([5, 6, 7, 9, 10, 19, 20, 21, 127], []), ([4], []), ([5, 6, 7, 9, 10, 19, 20, 128], []), ([5, 6, 7, 9, 10, 19, 20, 24], []), ([5, 6, 7, 9, 10, 19, 24, 129, 130, 131], []), ([24, 131], [5, 6, 7, 9, 10, 19, 129, 130]), ([5, 6, 7, 9, 10, 19, 24, 129, 130, 131, 132], []), ([5, 6, 7, 9, 10, 19, 24, 26, 129, 130, 131], []), ([5, 6, 7, 9, 10, 19, 24, 129, 130, 131], []), ([5, 6, 7, 9, 10, 19, 24, 129, 130, 131], []), ([5, 6, 7, 9, 10, 143], []), ([4], []), ([5, 6, 7, 9, 151], []), ([4], []), ([5, 6, 7, 9, 27], []), ([5, 6, 7, 9, 27, 28, 29], []), ([5, 6, 7, 9, 27, 28, 29, 30, 31], []), ([5, 6, 7, 28, 29, 30, 31, 32, 33], []), ([28, 29, 30, 31, 32, 33, 34, 35], []), ([4], [])] = some (x_lFnSplice, r_lFnSplice) := by kernel_rfl
def us_lFnSplice :=  (aI (aI (aI (aI (aI @u4_0 @u4_1) (aI @u4_2 @u4_3)) (aI (aI @u4_4 @u4_5) (aI @u4_6 @u4_7))) (aI (aI (aI @u4_8 @u4_9) (aI @u4_10 @u4_11)) (aI (aI @u4_12 @u4_13) (aI @u4_14 (aI @u4_15 @u4_16))))) (aI (aI (aI (aI @u4_17 @u4_18) (aI @u4_19 @u4_20)) (aI (aI @u4_21 @u4_22) (aI @u4_23 @u4_24))) (aI (aI (aI @u4_25 @u4_26) (aI @u4_27 @u4_28)) (aI (aI @u4_29 @u4_30) (aI @u4_31 (aI @u4_32 @u4_33))))))
end
theorem prs_nilx (p : Nat → Nat → Bool) (n : Nat) : prs p n n = [] ↔ ∀ i k, i < k → k < n → p i k = false := by
  unfold prs prRow
  rw [List.flatMap_eq_nil_iff]
  constructor
  · intro h i k hik hk
    have h1 := h i (List.mem_range.2 (by omega))
    rw [List.map_eq_nil_iff, List.filter_eq_nil_iff] at h1
    have h2 := h1 k (List.mem_range.2 hk)
    simpa [hik] using h2
  · intro h i hi
    rw [List.map_eq_nil_iff, List.filter_eq_nil_iff]
    intro k hk
    have := h i k
    simp only [List.mem_range] at hk
    simp only [Bool.and_eq_true, decide_eq_true_eq, not_and, Bool.not_eq_true]
    exact fun hik => h i k hik hk
theorem sofL_get (a : Nat) : ∀ (t : Bs) (i : Nat), i < t.length → (sofL a t).getD (2 * i) 0 = UInt8.ofNat (65 + a) ∧ (sofL a t).getD (2 * i + 1) 0 = t.getD i 0
  | [], i, h => by simp at h
  | c :: t, 0, _ => ⟨rfl, rfl⟩
  | c :: t, i + 1, h => by
    have ih := sofL_get a t i (by simpa using h)
    have e : sofL a (c :: t) = UInt8.ofNat (65 + a) :: c :: sofL a t := rfl
    rw [e, show 2 * (i + 1) = 2 * i + 1 + 1 by omega, List.getD_cons_succ, List.getD_cons_succ, List.getD_cons_succ, List.getD_cons_succ, List.getD_cons_succ]
    exact ih
theorem sofL_spl {t : Bs} {a : Nat} (h : SofOk t a) : IsSpl 4 (sofL a t) := by
  have h1 := h.1.1
  have ha := h.2
  have hl := sofL_len a t
  refine ⟨by decide, by omega, fun i hi he => ?_⟩
  obtain ⟨j, rfl⟩ : ∃ j, i = 2 * j := ⟨i / 2, by omega⟩
  obtain ⟨g1, g2⟩ := sofL_get a t j (by omega)
  rw [g1, g2]
  have : (UInt8.ofNat (65 + a)).toNat = 65 + a := by
    rw [UInt8.toNat_ofNat']; omega
  exact ⟨by omega, by omega, h.1.2 _ (getD_mem 0 (by omega))⟩
theorem sofL_mA {t : Bs} {a i : Nat} (ha : a < 4) (h : i < t.length) : mA (sofL a t) i = a := by
  unfold mA
  rw [(sofL_get a t i h).1, UInt8.toNat_ofNat']
  omega
/-- The four same methods. -/
def ms4 (m : MS) : List MS := [m, m, m, m]
def cs4 (cs : List Bs) : List (List Bs) := [cs, cs, cs, cs]
theorem ms4_get (m : MS) (i : Nat) (h : i < 4) : (ms4 m).getD i MS.nil = m := by
  unfold ms4
  match i, h with
  | 0, _ => rfl
  | 1, _ => rfl
  | 2, _ => rfl
  | 3, _ => rfl
theorem cs4_get (cs : List Bs) (i : Nat) (h : i < 4) : (cs4 cs).getD i [] = cs := by
  unfold cs4
  match i, h with
  | 0, _ => rfl
  | 1, _ => rfl
  | 2, _ => rfl
  | 3, _ => rfl
theorem sof_ok {nm : Bs} {n : Nat} {sv : SV} {cs : List Bs} {b s t : Bs} {a : Nat} (hC : IsMC nm n cs b s) (h : SofOk t a) : SplOk (ms4 ⟨nm, n, sv⟩) (cs4 cs) b s (sofL a t) := by
  refine ⟨⟨by show 1 ≤ 4 ∧ 4 ≤ 4; decide, fun i hi => ?_, ?_⟩, sofL_spl h⟩
  · rw [ms4_get _ i hi, ms4_get _ 0 (by decide), cs4_get _ i hi]
    exact ⟨hC.1, rfl⟩
  · rw [ms4_get _ 0 (by decide), cs4_get _ 0 (by decide)]
    exact hC
theorem sof_head {n : Nat} {cs : List Bs} {b s t : Bs} {a : Nat} (ha : a < 4) : ∀ k, k ≤ t.length → hdS n (cs4 cs) b s (sofL a t) k = headP n cs b s t k
  | 0, _ => by rw [headP_zero]; rfl
  | k + 1, hk => by
    have ih := sof_head (n := n) (cs := cs) (b := b) (s := s) (t := t) ha k (by omega)
    rw [headP_succ n cs b s t k (by omega), ← ih]
    show timesL _ (headC n ((cs4 cs).getD (mA (sofL a t) k) []) b s [(sofL a t).getD (2 * k + 1) 0]) = _
    rw [sofL_mA (t := t) (i := k) ha (by omega), cs4_get _ _ ha, (sofL_get a t k (by omega)).2]
    rfl
theorem sof_heads {n : Nat} {cs : List Bs} {b s t : Bs} {a : Nat} (ha : a < 4) : hdsS n (cs4 cs) b s (sofL a t) ((sofL a t).length / 2 + 1) = headsP n cs b s t (t.length + 1) := by
  have hl : (sofL a t).length / 2 = t.length := by rw [sofL_len]; omega
  rw [hl]
  unfold hdsS headsP
  exact List.map_congr_left fun k hk => sof_head ha k (by have := List.mem_range.1 hk; omega)
theorem sof_true {n : Nat} {cs : List Bs} {b s t : Bs} {a : Nat} (ha : a < 4) (h0 : 1 ≤ t.length) : TrueS n (cs4 cs) b s (sofL a t) ((sofL a t).length / 2) ↔ TrueT n cs b s t := by
  have hl : (sofL a t).length / 2 = t.length := by rw [sofL_len]; omega
  rw [hl, TrueT, clT, clL, headsP_len, List.length_eq_zero_iff, prs_nilx]
  unfold TrueS
  constructor
  · intro h
    have h1 := (h 0 (by omega)).1
    rw [sofL_mA ha (by omega), cs4_get _ _ ha] at h1
    refine ⟨h1, fun i k hik hk => ?_⟩
    have h2 := (h k hk).2 i hik
    rw [sofL_mA ha (by omega), sofL_mA ha (by omega), cs4_get _ _ ha, sof_head ha _ (by omega), sof_head ha _ (by omega)] at h2
    rw [clP, headsP_get n cs b s t t.length i (by omega), headsP_get n cs b s t t.length k (by omega)]
    exact decide_eq_false h2
  · rintro ⟨h1, h2⟩ k hk
    rw [sofL_mA ha hk, cs4_get _ _ ha]
    refine ⟨h1, fun j hj => ?_⟩
    rw [sofL_mA ha (by omega), cs4_get _ _ ha, sof_head ha _ (by omega), sof_head ha _ (by omega)]
    have := h2 j k hj hk
    rw [clP, headsP_get n cs b s t t.length j (by omega), headsP_get n cs b s t t.length k (by omega)] at this
    exact of_decide_eq_false this
theorem sGoodCalls_okx (nm : Bs) (st : Int) (v : Value) (cs : List Bs) (b s : Bs) (hnm : nm.length ≤ 1048576) (hs : ∀ c ∈ cs, c.length ≤ 1048576) (hl : cs.length ≤ 1000000000) (hb : b.length ≤ 1048576 ∧ s.length ≤ 1048576) (w : World) (h : Sq fS 1 w v cs) : Fn 30 [mV nm st v, kV b s] w (fun r _ => r = .bool (decide (IsMC nm st cs b s))) := by
  (refine callsV_of mix Tryz.func30 c_sGoodCalls ?_; simp only [↓vsd, vsn, gW, qd, qv, ev, pick, argE, zipE, ne_eq, eq_self, forall_const, implies_true, if_true, if_false, reduceIte, reduceCtorEq, Nat.reduceEqDiff, Nat.reduceAdd, Nat.reduceLT, ↓us_sGoodCalls, r_sGoodCalls])
  refine m_al ?_
  rintro b1 w1 hb1 hblk1 hx1 hs1
  have h1 : Blk w1 b1 (fM nm st v) 25 := hblk1
  simp only [↓vsd, vsn, gW, qd, qv, ev, pick, argE, zipE, ne_eq, eq_self, forall_const, implies_true, if_true, if_false, reduceIte, reduceCtorEq, Nat.reduceEqDiff, Nat.reduceAdd, Nat.reduceLT, ↓us_sGoodCalls, r_sGoodCalls, h1.facts, fMg]
  refine m_al ?_
  rintro b2 w2 hb2 hblk2 hx2 hs2
  have h2 : Blk w2 b2 (fQ b s) 27 := hblk2
  have h12 := h1.ext hx2
  have hx12 := hx1.trans hx2
  simp only [↓vsd, vsn, gW, qd, qv, ev, pick, argE, zipE, ne_eq, eq_self, forall_const, implies_true, if_true, if_false, reduceIte, reduceCtorEq, Nat.reduceEqDiff, Nat.reduceAdd, Nat.reduceLT, ↓us_sGoodCalls, r_sGoodCalls, h12.facts, h2.facts, fMg, fQg]
  refine m_call (sl8Good_ok nm st v cs b s hnm hs hl hb _ (by first | exact h.ext hx12 | exact h.ext (dr hx12))) ?_
  rintro _ w3 hx3 rfl
  have hx3 : Ext w2 w3 := by first | exact hx3 | exact ud hx3 | exact ud (ud hx3)
  simp only [↓vsd, vsn, gW, qd, qv, ev, pick, argE, zipE, ne_eq, eq_self, forall_const, implies_true, if_true, if_false, reduceIte, reduceCtorEq, Nat.reduceEqDiff, Nat.reduceAdd, Nat.reduceLT, ↓us_sGoodCalls, r_sGoodCalls]
  exact hx12.trans hx3
theorem sum_takeS (L : List Int) (k : Nat) (h : k < L.length) : (L.take (k + 1)).sum = (L.take k).sum + L.getD k 0 := by
  rw [List.take_add_one, List.getElem?_eq_getElem h, List.sum_append, List.getD_eq_getElem?_getD, List.getElem?_eq_getElem h]; simp
set_option maxHeartbeats 4000000 in
theorem lFnSplice_ok (v u : Value) (code more : List UInt8) (hcl : code.length ≤ 140737488355328) (hml : more.length ≤ 140737488355328) (w : World) (h : Sq fU 1 w v code) (h' : Sq fU 1 w u more) : Fn 4 [v, u] w (fun r _ => r = .bool true) := by
  (refine callsV_of mix Tryz.func4 c_lFnSplice ?_; simp only [↓vsd, vsn, gW, qd, qv, ev, pick, argE, zipE, ne_eq, eq_self, forall_const, implies_true, if_true, if_false, reduceIte, reduceCtorEq, Nat.reduceEqDiff, Nat.reduceAdd, Nat.reduceLT, ↓us_lFnSplice, r_lFnSplice])
  simp only [↓vsd, vsn, gW, qd, qv, ev, pick, argE, zipE, ne_eq, eq_self, forall_const, implies_true, if_true, if_false, reduceIte, reduceCtorEq, Nat.reduceEqDiff, Nat.reduceAdd, Nat.reduceLT, ↓us_lFnSplice, r_lFnSplice, h.facts, h'.facts]
  refine ⟨inR_i64 (by omega), fun _ => Ext.refl _, fun hsm => ?_⟩
  have hlen : code.length ≤ 1048576 ∧ more.length ≤ 1048576 := by omega
  refine m_call (sDrawTouchHeads_ok v code hlen.1 _ h) ?_
  rintro _ w1 hx1 ⟨nm, st, x, cs, b, s, t, rfl, ho1, hnm, hst, hcs, hc8, hbs, ht⟩
  obtain ⟨sv, rfl⟩ := ho1.sq.sv
  simp only [↓vsd, vsn, gW, qd, qv, ev, pick, argE, zipE, ne_eq, eq_self, forall_const, implies_true, if_true, if_false, reduceIte, reduceCtorEq, Nat.reduceEqDiff, Nat.reduceAdd, Nat.reduceLT, ↓us_lFnSplice, r_lFnSplice]
  refine m_al ?_
  rintro bm w2 hbm hblk2 hx2 hs2
  simp only [↓vsd, vsn, gW, qd, qv, ev, pick, argE, zipE, ne_eq, eq_self, forall_const, implies_true, if_true, if_false, reduceIte, reduceCtorEq, Nat.reduceEqDiff, Nat.reduceAdd, Nat.reduceLT, ↓us_lFnSplice, r_lFnSplice]
  refine m_al ?_
  rintro bk w3 hbk hblk3 hx3 hs3
  simp only [↓vsd, vsn, gW, qd, qv, ev, pick, argE, zipE, ne_eq, eq_self, forall_const, implies_true, if_true, if_false, reduceIte, reduceCtorEq, Nat.reduceEqDiff, Nat.reduceAdd, Nat.reduceLT, ↓us_lFnSplice, r_lFnSplice]
  refine m_st (Blk.ext hblk2 hx3) rfl (Nat.le_refl 3) (fM_one nm st _ rfl) ?_
  rintro w4 hblk4 hu4
  have hm4 : Blk w4 bm (fM nm st sv.v) 25 := hblk4
  simp only [↓vsd, vsn, gW, qd, qv, ev, pick, argE, zipE, ne_eq, eq_self, forall_const, implies_true, if_true, if_false, reduceIte, reduceCtorEq, Nat.reduceEqDiff, Nat.reduceAdd, Nat.reduceLT, ↓us_lFnSplice, r_lFnSplice]
  refine m_st (hu4.blk hblk3 (by omega)) rfl (Nat.le_refl 2) (fQ_one b s) ?_
  rintro w5 hblk5 hu5
  have hk5 : Blk w5 bk (fQ b s) 27 := hblk5
  have hm5 := hu5.blk hm4 (by omega)
  have ho5 := (((ho1.ext hx2).ext hx3).upd hu4 (ho1.away (by omega))).upd hu5 (ho1.away (by omega))
  have hx5 : Ext w w5 := hu5.below (hu4.below ((hx1.trans hx2).trans hx3) (by have := hx1.size; omega)) (by have := hx1.size; omega)
  have hnm' : nm.length ≤ 1048576 := by omega
  have hc8' : ∀ c ∈ cs, c.length ≤ 1048576 := fun c hc => by have := hc8 c hc; omega
  have hcs' : cs.length ≤ 1000000000 := by omega
  have hbs' : b.length ≤ 1048576 ∧ s.length ≤ 1048576 := by omega
  have ht' : t.length ≤ 1000000000 := by omega
  simp only [↓vsd, vsn, gW, qd, qv, ev, pick, argE, zipE, ne_eq, eq_self, forall_const, implies_true, if_true, if_false, reduceIte, reduceCtorEq, Nat.reduceEqDiff, Nat.reduceAdd, Nat.reduceLT, ↓us_lFnSplice, r_lFnSplice]
  refine m_call (lqNumber_ok u more hlen.2 _ (by first | exact h'.ext hx5 | exact h'.ext (dr hx5))) ?_
  rintro _ w6 hx6 ⟨q, rfl, hq⟩
  have e4 : ((q : Nat) : Int).tmod 4 = ((q % 4 : Nat) : Int) := rfl
  have ha4 : q % 4 < 4 := Nat.mod_lt _ (by decide)
  generalize hA : q % 4 = a at *
  simp only [↓vsd, vsn, gW, qd, qv, ev, pick, argE, zipE, ne_eq, eq_self, forall_const, implies_true, if_true, if_false, reduceIte, reduceCtorEq, Nat.reduceEqDiff, Nat.reduceAdd, Nat.reduceLT, ↓us_lFnSplice, r_lFnSplice, e4]
  refine ⟨by decide, ?_⟩
  refine m_call (iSpliceOf_ok t a (by omega) _) ?_
  rintro _ w7 hx7 rfl
  rw [sofV]
  simp only [↓vsd, vsn, gW, qd, qv, ev, pick, argE, zipE, ne_eq, eq_self, forall_const, implies_true, if_true, if_false, reduceIte, reduceCtorEq, Nat.reduceEqDiff, Nat.reduceAdd, Nat.reduceLT, ↓us_lFnSplice, r_lFnSplice]
  refine m_call (sSpliceOf_ok t a (by omega) _) ?_
  rintro _ w8 hx8 rfl
  rw [sofV]
  have hx58 := (hx6.trans hx7).trans hx8
  have hx08 := hx5.trans hx58
  simp only [↓vsd, vsn, gW, qd, qv, ev, pick, argE, zipE, ne_eq, eq_self, forall_const, implies_true, if_true, if_false, reduceIte, reduceCtorEq, Nat.reduceEqDiff, Nat.reduceAdd, Nat.reduceLT, ↓us_lFnSplice, r_lFnSplice]
  refine m_call (sDrawSwitchesIn_ok u more hlen.2 _ (by first | exact h'.ext hx08 | exact h'.ext (dr hx08))) ?_
  rintro _ w9 hx9 ⟨z, rfl, hz⟩
  simp only [↓vsd, vsn, gW, qd, qv, ev, pick, argE, zipE, ne_eq, eq_self, forall_const, implies_true, if_true, if_false, reduceIte, reduceCtorEq, Nat.reduceEqDiff, Nat.reduceAdd, Nat.reduceLT, ↓us_lFnSplice, r_lFnSplice]
  refine m_call (iSwitchesIn_ok z (by omega) _) ?_
  rintro _ w10 hx10 rfl
  rw [swV]
  simp only [↓vsd, vsn, gW, qd, qv, ev, pick, argE, zipE, ne_eq, eq_self, forall_const, implies_true, if_true, if_false, reduceIte, reduceCtorEq, Nat.reduceEqDiff, Nat.reduceAdd, Nat.reduceLT, ↓us_lFnSplice, r_lFnSplice]
  refine m_call (sSwitchesIn_ok z (by omega) _) ?_
  rintro _ w11 hx11 rfl
  rw [swV]
  have hx811 := (hx9.trans hx10).trans hx11
  have hx011 := hx08.trans hx811
  simp only [↓vsd, vsn, gW, qd, qv, ev, pick, argE, zipE, ne_eq, eq_self, forall_const, implies_true, if_true, if_false, reduceIte, reduceCtorEq, Nat.reduceEqDiff, Nat.reduceAdd, Nat.reduceLT, ↓us_lFnSplice, r_lFnSplice]
  refine m_call (sDrawBalanceOf_ok u more hlen.2 _ (by first | exact h'.ext hx011 | exact h'.ext (dr hx011))) ?_
  rintro _ w12 hx12 ⟨yb, tb, mb, cb, rfl, hMb, hAb, htb⟩
  have hA4 := hAb.1
  simp only [↓vsd, vsn, gW, qd, qv, ev, pick, argE, zipE, ne_eq, eq_self, forall_const, implies_true, if_true, if_false, reduceIte, reduceCtorEq, Nat.reduceEqDiff, Nat.reduceAdd, Nat.reduceLT, ↓us_lFnSplice, r_lFnSplice]
  refine m_call (iBalanceOf_ok yb mb cb tb (by omega) (by omega) _ hMb) ?_
  rintro _ w13 hx13 ⟨r13, rfl, ho13⟩
  simp only [↓vsd, vsn, gW, qd, qv, ev, pick, argE, zipE, ne_eq, eq_self, forall_const, implies_true, if_true, if_false, reduceIte, reduceCtorEq, Nat.reduceEqDiff, Nat.reduceAdd, Nat.reduceLT, ↓us_lFnSplice, r_lFnSplice]
  refine m_call (sBalanceOf_ok yb mb cb tb (by omega) (by omega) _ (hMb.ext hx13)) ?_
  rintro _ w14 hx14 ⟨r14, rfl, ho14⟩
  have hbl : (balV mb.length tb).length ≤ 100 := by
    unfold balV
    split
    · rw [balL_len]; omega
    · simp
  have ho13 := ho13.ext hx14
  simp only [↓vsd, vsn, gW, qd, qv, ev, pick, argE, zipE, ne_eq, eq_self, forall_const, implies_true, if_true, if_false, reduceIte, reduceCtorEq, Nat.reduceEqDiff, Nat.reduceAdd, Nat.reduceLT, ↓us_lFnSplice, r_lFnSplice]
  refine m_call (lqSameN_ok r13 r14 _ _ _ ho13.sq ho14.sq (by omega)) ?_
  rintro _ w15 hx15 rfl
  simp only [↓vsd, vsn, gW, qd, qv, ev, pick, argE, zipE, ne_eq, eq_self, forall_const, implies_true, if_true, if_false, reduceIte, reduceCtorEq, Nat.reduceEqDiff, Nat.reduceAdd, Nat.reduceLT, ↓us_lFnSplice, r_lFnSplice]
  refine m_call (iGoodSplice_ok yb mb cb tb (by omega) (by omega) _ (((hMb.ext hx13).ext hx14).ext hx15)) ?_
  rintro _ w16 hx16 rfl
  have hx1416 := hx15.trans hx16
  have hx1116 := ((hx12.trans hx13).trans hx14).trans hx1416
  have hx016 := hx011.trans hx1116
  have hx516 := (hx58.trans hx811).trans hx1116
  have hm16 := hm5.ext hx516
  have hk16 := hk5.ext hx516
  have ho16 := ho5.ext hx516
  have hb16 := ho13.sq.ext hx1416
  have hasof : SofOk t (a : Nat) ↔ IsTch t := ⟨fun hh => hh.1, fun hh => ⟨hh, by omega, by omega⟩⟩
  have hmb4 := hAb.1
  by_cases hT : IsTch t
  · have hok : SofOk t (a : Nat) := hasof.2 hT
    have hTd := decide_eq_true hok
    have hsv : (if SofOk t (a : Nat) then sofL a t else []) = sofL a t := if_pos hok
    by_cases hB : IsSpl mb.length tb
    · have hBd := decide_eq_true hB
      have hbv : balV mb.length tb = balL mb.length tb (tb.length / 2) := by rw [balV, if_pos hB]
      rw [hbv] at hb16
      have hsum := bal_sum mb.length tb (tb.length / 2) (fun i hi => (mA_lt hB hi).2.1)
      have hle : ∀ k < mb.length, 0 ≤ (balL mb.length tb (tb.length / 2)).getD k 0 ∧ (balL mb.length tb (tb.length / 2)).getD k 0 ≤ 60 := fun k hk => by
        rw [balL_get _ _ _ _ hk]
        have := balN_le tb (tb.length / 2) k
        have := hB.2.1
        omega
      have hLl := balL_len mb.length tb (tb.length / 2)
      have hB2 := hB.2.1
      generalize balL mb.length tb (tb.length / 2) = L at *
      simp only [↓vsd, vsn, gW, qd, qv, ev, pick, argE, zipE, ne_eq, eq_self, forall_const, implies_true, if_true, if_false, reduceIte, reduceCtorEq, Nat.reduceEqDiff, Nat.reduceAdd, Nat.reduceLT, ↓us_lFnSplice, r_lFnSplice, hBd, hTd, hsv, hb16.facts]
      refine m_upto L.length (fun k vs w' => vs = [.int .i64 (L.take k).sum, .int .i64 k] ∧ (0 ≤ (L.take k).sum ∧ (L.take k).sum ≤ 60 * k) ∧ Ext w16 w') ⟨by simp, by simp, Ext.refl _⟩ ?_
      rintro k vs w17 hk ⟨rfl, hb, hx17⟩
      have hn17 := hb16.ext hx17
      by_cases hlt : k < L.length
      · have hltI : (k : Int) < L.length := by omega
        have hltJ : ¬ (L.length : Int) ≤ k := by omega
        have a17 := hn17.at1 0 hlt
        have hst := sum_takeS L k hlt
        have hgk := hle k (by omega)
        generalize L.getD k 0 = z at *
        simp only [↓vsd, vsn, gW, qd, qv, ev, pick, argE, zipE, ne_eq, eq_self, forall_const, implies_true, if_true, if_false, reduceIte, reduceCtorEq, Nat.reduceEqDiff, Nat.reduceAdd, Nat.reduceLT, ↓us_lFnSplice, r_lFnSplice, hltI, hltJ, hn17.facts, a17]
        exact ⟨by omega, inR_i64 (by omega), inR_i64 (by omega), UpTo.next hlt ⟨by rw [hst]; simp, by omega, by first | exact hx17 | exact dr hx17⟩⟩
      · obtain rfl : k = L.length := by omega
        have hltI : ¬ (L.length : Int) < L.length := by omega
        have hsI : (2 : Int) * (L.take L.length).sum = (tb.length : Int) := by rw [List.take_length, hsum]; omega
        have hmW := hm16.ext hx17
        have hkW := hk16.ext hx17
        have hoW := ho16.ext hx17
        have hxW := hx016.trans hx17
        simp only [↓vsd, vsn, gW, qd, qv, ev, pick, argE, zipE, ne_eq, eq_self, forall_const, implies_true, if_true, if_false, reduceIte, reduceCtorEq, Nat.reduceEqDiff, Nat.reduceAdd, Nat.reduceLT, ↓us_lFnSplice, r_lFnSplice, hltI, hsI, hTd, hsv, hmW.facts, hkW.facts, fMg, fQg]
        refine ⟨inR_i64 (by omega), ?_⟩
        refine m_call (sGoodCalls_okx nm st sv.v cs b s hnm' hc8' hcs' hbs' _ hoW.sq) ?_
        rintro _ wA hxA rfl
        have hxWA := hxW.trans hxA
        have hmA := hmW.ext hxA
        have hkA := hkW.ext hxA
        have hoA := hoW.ext hxA
        by_cases hC : IsMC nm st cs b s
        · have hCd := decide_eq_true hC
          obtain ⟨n, rfl⟩ : ∃ n : Nat, st = n := ⟨st.toNat, by omega⟩
          have hM : IsMT nm n cs b s t := ⟨hC, hT⟩
          have hS := sof_ok (sv := sv) hC hok
          have hn0 : ((ms4 ⟨nm, n, sv⟩).getD 0 MS.nil).st = n := rfl
          have hsmall : MSmall (ms4 ⟨nm, n, sv⟩) (cs4 cs) := ⟨by show 4 ≤ 1048576; decide, fun i hi => by
            have hi : i < 4 := hi
            rw [ms4_get _ i hi, cs4_get _ i hi]
            exact ⟨hnm', by omega, hc8'⟩⟩
          have hsl := sofL_len a t
          have h60 := hT.1
          simp only [↓vsd, vsn, gW, qd, qv, ev, pick, argE, zipE, ne_eq, eq_self, forall_const, implies_true, if_true, if_false, reduceIte, reduceCtorEq, Nat.reduceEqDiff, Nat.reduceAdd, Nat.reduceLT, ↓us_lFnSplice, r_lFnSplice, hCd, hmA.facts, fMg]
          refine m_bsl (fun p hp => by simp only [List.mem_cons, List.not_mem_nil, or_false] at hp; rcases hp with rfl | rfl | rfl | rfl <;> rfl) ?_
          rintro bl wB hbl hblkB hxB hsB
          have hxWB := hxWA.trans hxB
          have hmB := hmA.ext hxB
          have hkB := hkA.ext hxB
          have hoB := hoA.ext hxB
          have hq4 : SqM wB (.slice (some ⟨bl, 0, none⟩) 4 4) (ms4 ⟨nm, n, sv⟩) (cs4 cs) := ⟨Sq.lit (ms4 ⟨nm, n, sv⟩) 4 fMS_len hblkB rfl rfl, rfl, fun i hi => by
            have hi : i < 4 := hi
            rw [ms4_get _ i hi, cs4_get _ i hi]
            exact hoB.sq⟩
          simp only [↓vsd, vsn, gW, qd, qv, ev, pick, argE, zipE, ne_eq, eq_self, forall_const, implies_true, if_true, if_false, reduceIte, reduceCtorEq, Nat.reduceEqDiff, Nat.reduceAdd, Nat.reduceLT, ↓us_lFnSplice, r_lFnSplice, hkB.facts, fQg]
          refine m_call (iSpliceHeads_ok _ (ms4 ⟨nm, n, sv⟩) (cs4 cs) b s (sofL a t) hsmall hbs' (by omega) _ hq4) ?_
          rintro _ wC hxC ⟨rC, rfl, hoC⟩
          rw [shV, if_pos hS, hn0, Int.toNat_natCast, sof_heads ha4] at hoC
          rw [decide_eq_true hS]
          have hmC := hmB.ext hxC
          have hkC := hkB.ext hxC
          simp only [↓vsd, vsn, gW, qd, qv, ev, pick, argE, zipE, ne_eq, eq_self, forall_const, implies_true, if_true, if_false, reduceIte, reduceCtorEq, Nat.reduceEqDiff, Nat.reduceAdd, Nat.reduceLT, ↓us_lFnSplice, r_lFnSplice, hmC.facts, hkC.facts, fMg, fQg]
          refine m_call (sTouchHeads_ok nm n sv.v cs b s t hnm' hc8' hcs' hbs' ht' _ (hoB.ext hxC).sq) ?_
          rintro _ wD hxD ⟨rD, rfl, hoD⟩
          rw [headsV, if_pos hM, Int.toNat_natCast] at hoD
          rw [decide_eq_true hM]
          have hkD := hkC.ext hxD
          simp only [↓vsd, vsn, gW, qd, qv, ev, pick, argE, zipE, ne_eq, eq_self, forall_const, implies_true, if_true, if_false, reduceIte, reduceCtorEq, Nat.reduceEqDiff, Nat.reduceAdd, Nat.reduceLT, ↓us_lFnSplice, r_lFnSplice, hkD.facts, fQg]
          refine m_call (iTrueSplice_ok _ (ms4 ⟨nm, n, sv⟩) (cs4 cs) b s (sofL a t) hsmall hbs' (by omega) _ ((hq4.ext hxC).ext hxD)) ?_
          rintro _ wE hxE rfl
          have htt : tspB (ms4 ⟨nm, n, sv⟩) (cs4 cs) b s (sofL a t) = decide (TrueT n cs b s t) := by
            rw [tspB, decide_eq_true hS, Bool.true_and, hn0, Int.toNat_natCast]
            exact decide_eq_decide.2 (sof_true ha4 h60.1)
          rw [tspV, htt, decide_eq_true hS]
          have hmE := (hmC.ext hxD).ext hxE
          have hkE := hkD.ext hxE
          simp only [↓vsd, vsn, gW, qd, qv, ev, pick, argE, zipE, ne_eq, eq_self, forall_const, implies_true, if_true, if_false, reduceIte, reduceCtorEq, Nat.reduceEqDiff, Nat.reduceAdd, Nat.reduceLT, ↓us_lFnSplice, r_lFnSplice, hmE.facts, hkE.facts, fMg, fQg]
          refine m_call (sTrueByHeads_ok nm n sv.v cs b s t hnm' hc8' hcs' hbs' ht' _ (((hoB.ext hxC).ext hxD).ext hxE).sq) ?_
          rintro _ wF hxF rfl
          have htb : tbhV nm n cs b s t = decide (TrueT n cs b s t) := by rw [tbhV, decide_eq_true hM, Bool.true_and, Int.toNat_natCast]
          rw [htb, decide_eq_true hM]
          have hLh := headsP_len n cs b s t (t.length + 1)
          simp only [↓vsd, vsn, gW, qd, qv, ev, pick, argE, zipE, ne_eq, eq_self, forall_const, implies_true, if_true, if_false, reduceIte, reduceCtorEq, Nat.reduceEqDiff, Nat.reduceAdd, Nat.reduceLT, ↓us_lFnSplice, r_lFnSplice]
          refine m_call (lqSameS_ok rC rD _ _ _ (by first | exact (((hoC.ext hxD).ext hxE).ext hxF).sq | exact (((hoC.ext hxD).ext hxE).ext hxF).sq.ext (dr (Ext.refl _))) (by first | exact ((hoD.ext hxE).ext hxF).sq | exact ((hoD.ext hxE).ext hxF).sq.ext (dr (Ext.refl _))) (by rw [hLh]; omega)) ?_
          rintro _ wG hxG rfl
          simp only [↓vsd, vsn, gW, qd, qv, ev, pick, argE, zipE, ne_eq, eq_self, forall_const, implies_true, if_true, if_false, reduceIte, reduceCtorEq, Nat.reduceEqDiff, Nat.reduceAdd, Nat.reduceLT, ↓us_lFnSplice, r_lFnSplice]
          exact ((((hxWB.trans hxC).trans hxD).trans hxE).trans hxF).trans (by first | exact hxG | exact ud hxG)
        · have hCd := decide_eq_false hC
          simp only [↓vsd, vsn, gW, qd, qv, ev, pick, argE, zipE, ne_eq, eq_self, forall_const, implies_true, if_true, if_false, reduceIte, reduceCtorEq, Nat.reduceEqDiff, Nat.reduceAdd, Nat.reduceLT, ↓us_lFnSplice, r_lFnSplice, hCd]
          exact hxWA
    · have hBd := decide_eq_false hB
      have hmW := hm16
      have hkW := hk16
      have hoW := ho16
      have hxW := hx016
      simp only [↓vsd, vsn, gW, qd, qv, ev, pick, argE, zipE, ne_eq, eq_self, forall_const, implies_true, if_true, if_false, reduceIte, reduceCtorEq, Nat.reduceEqDiff, Nat.reduceAdd, Nat.reduceLT, ↓us_lFnSplice, r_lFnSplice, hBd, hTd, hsv, hmW.facts, hkW.facts, fMg, fQg]
      refine m_call (sGoodCalls_okx nm st sv.v cs b s hnm' hc8' hcs' hbs' _ hoW.sq) ?_
      rintro _ wA hxA rfl
      have hxWA := hxW.trans hxA
      have hmA := hmW.ext hxA
      have hkA := hkW.ext hxA
      have hoA := hoW.ext hxA
      by_cases hC : IsMC nm st cs b s
      · have hCd := decide_eq_true hC
        obtain ⟨n, rfl⟩ : ∃ n : Nat, st = n := ⟨st.toNat, by omega⟩
        have hM : IsMT nm n cs b s t := ⟨hC, hT⟩
        have hS := sof_ok (sv := sv) hC hok
        have hn0 : ((ms4 ⟨nm, n, sv⟩).getD 0 MS.nil).st = n := rfl
        have hsmall : MSmall (ms4 ⟨nm, n, sv⟩) (cs4 cs) := ⟨by show 4 ≤ 1048576; decide, fun i hi => by
          have hi : i < 4 := hi
          rw [ms4_get _ i hi, cs4_get _ i hi]
          exact ⟨hnm', by omega, hc8'⟩⟩
        have hsl := sofL_len a t
        have h60 := hT.1
        simp only [↓vsd, vsn, gW, qd, qv, ev, pick, argE, zipE, ne_eq, eq_self, forall_const, implies_true, if_true, if_false, reduceIte, reduceCtorEq, Nat.reduceEqDiff, Nat.reduceAdd, Nat.reduceLT, ↓us_lFnSplice, r_lFnSplice, hCd, hmA.facts, fMg]
        refine m_bsl (fun p hp => by simp only [List.mem_cons, List.not_mem_nil, or_false] at hp; rcases hp with rfl | rfl | rfl | rfl <;> rfl) ?_
        rintro bl wB hbl hblkB hxB hsB
        have hxWB := hxWA.trans hxB
        have hmB := hmA.ext hxB
        have hkB := hkA.ext hxB
        have hoB := hoA.ext hxB
        have hq4 : SqM wB (.slice (some ⟨bl, 0, none⟩) 4 4) (ms4 ⟨nm, n, sv⟩) (cs4 cs) := ⟨Sq.lit (ms4 ⟨nm, n, sv⟩) 4 fMS_len hblkB rfl rfl, rfl, fun i hi => by
          have hi : i < 4 := hi
          rw [ms4_get _ i hi, cs4_get _ i hi]
          exact hoB.sq⟩
        simp only [↓vsd, vsn, gW, qd, qv, ev, pick, argE, zipE, ne_eq, eq_self, forall_const, implies_true, if_true, if_false, reduceIte, reduceCtorEq, Nat.reduceEqDiff, Nat.reduceAdd, Nat.reduceLT, ↓us_lFnSplice, r_lFnSplice, hkB.facts, fQg]
        refine m_call (iSpliceHeads_ok _ (ms4 ⟨nm, n, sv⟩) (cs4 cs) b s (sofL a t) hsmall hbs' (by omega) _ hq4) ?_
        rintro _ wC hxC ⟨rC, rfl, hoC⟩
        rw [shV, if_pos hS, hn0, Int.toNat_natCast, sof_heads ha4] at hoC
        rw [decide_eq_true hS]
        have hmC := hmB.ext hxC
        have hkC := hkB.ext hxC
        simp only [↓vsd, vsn, gW, qd, qv, ev, pick, argE, zipE, ne_eq, eq_self, forall_const, implies_true, if_true, if_false, reduceIte, reduceCtorEq, Nat.reduceEqDiff, Nat.reduceAdd, Nat.reduceLT, ↓us_lFnSplice, r_lFnSplice, hmC.facts, hkC.facts, fMg, fQg]
        refine m_call (sTouchHeads_ok nm n sv.v cs b s t hnm' hc8' hcs' hbs' ht' _ (hoB.ext hxC).sq) ?_
        rintro _ wD hxD ⟨rD, rfl, hoD⟩
        rw [headsV, if_pos hM, Int.toNat_natCast] at hoD
        rw [decide_eq_true hM]
        have hkD := hkC.ext hxD
        simp only [↓vsd, vsn, gW, qd, qv, ev, pick, argE, zipE, ne_eq, eq_self, forall_const, implies_true, if_true, if_false, reduceIte, reduceCtorEq, Nat.reduceEqDiff, Nat.reduceAdd, Nat.reduceLT, ↓us_lFnSplice, r_lFnSplice, hkD.facts, fQg]
        refine m_call (iTrueSplice_ok _ (ms4 ⟨nm, n, sv⟩) (cs4 cs) b s (sofL a t) hsmall hbs' (by omega) _ ((hq4.ext hxC).ext hxD)) ?_
        rintro _ wE hxE rfl
        have htt : tspB (ms4 ⟨nm, n, sv⟩) (cs4 cs) b s (sofL a t) = decide (TrueT n cs b s t) := by
          rw [tspB, decide_eq_true hS, Bool.true_and, hn0, Int.toNat_natCast]
          exact decide_eq_decide.2 (sof_true ha4 h60.1)
        rw [tspV, htt, decide_eq_true hS]
        have hmE := (hmC.ext hxD).ext hxE
        have hkE := hkD.ext hxE
        simp only [↓vsd, vsn, gW, qd, qv, ev, pick, argE, zipE, ne_eq, eq_self, forall_const, implies_true, if_true, if_false, reduceIte, reduceCtorEq, Nat.reduceEqDiff, Nat.reduceAdd, Nat.reduceLT, ↓us_lFnSplice, r_lFnSplice, hmE.facts, hkE.facts, fMg, fQg]
        refine m_call (sTrueByHeads_ok nm n sv.v cs b s t hnm' hc8' hcs' hbs' ht' _ (((hoB.ext hxC).ext hxD).ext hxE).sq) ?_
        rintro _ wF hxF rfl
        have htb : tbhV nm n cs b s t = decide (TrueT n cs b s t) := by rw [tbhV, decide_eq_true hM, Bool.true_and, Int.toNat_natCast]
        rw [htb, decide_eq_true hM]
        have hLh := headsP_len n cs b s t (t.length + 1)
        simp only [↓vsd, vsn, gW, qd, qv, ev, pick, argE, zipE, ne_eq, eq_self, forall_const, implies_true, if_true, if_false, reduceIte, reduceCtorEq, Nat.reduceEqDiff, Nat.reduceAdd, Nat.reduceLT, ↓us_lFnSplice, r_lFnSplice]
        refine m_call (lqSameS_ok rC rD _ _ _ (by first | exact (((hoC.ext hxD).ext hxE).ext hxF).sq | exact (((hoC.ext hxD).ext hxE).ext hxF).sq.ext (dr (Ext.refl _))) (by first | exact ((hoD.ext hxE).ext hxF).sq | exact ((hoD.ext hxE).ext hxF).sq.ext (dr (Ext.refl _))) (by rw [hLh]; omega)) ?_
        rintro _ wG hxG rfl
        simp only [↓vsd, vsn, gW, qd, qv, ev, pick, argE, zipE, ne_eq, eq_self, forall_const, implies_true, if_true, if_false, reduceIte, reduceCtorEq, Nat.reduceEqDiff, Nat.reduceAdd, Nat.reduceLT, ↓us_lFnSplice, r_lFnSplice]
        exact ((((hxWB.trans hxC).trans hxD).trans hxE).trans hxF).trans (by first | exact hxG | exact ud hxG)
      · have hCd := decide_eq_false hC
        simp only [↓vsd, vsn, gW, qd, qv, ev, pick, argE, zipE, ne_eq, eq_self, forall_const, implies_true, if_true, if_false, reduceIte, reduceCtorEq, Nat.reduceEqDiff, Nat.reduceAdd, Nat.reduceLT, ↓us_lFnSplice, r_lFnSplice, hCd]
        exact hxWA
  · have hno : ¬ SofOk t (a : Nat) := fun hh => hT (hasof.1 hh)
    have hTd := decide_eq_false hno
    have hsv : (if SofOk t (a : Nat) then sofL a t else []) = [] := if_neg hno
    by_cases hB : IsSpl mb.length tb
    · have hBd := decide_eq_true hB
      have hbv : balV mb.length tb = balL mb.length tb (tb.length / 2) := by rw [balV, if_pos hB]
      rw [hbv] at hb16
      have hsum := bal_sum mb.length tb (tb.length / 2) (fun i hi => (mA_lt hB hi).2.1)
      have hle : ∀ k < mb.length, 0 ≤ (balL mb.length tb (tb.length / 2)).getD k 0 ∧ (balL mb.length tb (tb.length / 2)).getD k 0 ≤ 60 := fun k hk => by
        rw [balL_get _ _ _ _ hk]
        have := balN_le tb (tb.length / 2) k
        have := hB.2.1
        omega
      have hLl := balL_len mb.length tb (tb.length / 2)
      have hB2 := hB.2.1
      generalize balL mb.length tb (tb.length / 2) = L at *
      simp only [↓vsd, vsn, gW, qd, qv, ev, pick, argE, zipE, ne_eq, eq_self, forall_const, implies_true, if_true, if_false, reduceIte, reduceCtorEq, Nat.reduceEqDiff, Nat.reduceAdd, Nat.reduceLT, ↓us_lFnSplice, r_lFnSplice, hBd, hTd, hsv, hb16.facts]
      refine m_upto L.length (fun k vs w' => vs = [.int .i64 (L.take k).sum, .int .i64 k] ∧ (0 ≤ (L.take k).sum ∧ (L.take k).sum ≤ 60 * k) ∧ Ext w16 w') ⟨by simp, by simp, Ext.refl _⟩ ?_
      rintro k vs w17 hk ⟨rfl, hb, hx17⟩
      have hn17 := hb16.ext hx17
      by_cases hlt : k < L.length
      · have hltI : (k : Int) < L.length := by omega
        have hltJ : ¬ (L.length : Int) ≤ k := by omega
        have a17 := hn17.at1 0 hlt
        have hst := sum_takeS L k hlt
        have hgk := hle k (by omega)
        generalize L.getD k 0 = z at *
        simp only [↓vsd, vsn, gW, qd, qv, ev, pick, argE, zipE, ne_eq, eq_self, forall_const, implies_true, if_true, if_false, reduceIte, reduceCtorEq, Nat.reduceEqDiff, Nat.reduceAdd, Nat.reduceLT, ↓us_lFnSplice, r_lFnSplice, hltI, hltJ, hn17.facts, a17]
        exact ⟨by omega, inR_i64 (by omega), inR_i64 (by omega), UpTo.next hlt ⟨by rw [hst]; simp, by omega, by first | exact hx17 | exact dr hx17⟩⟩
      · obtain rfl : k = L.length := by omega
        have hltI : ¬ (L.length : Int) < L.length := by omega
        have hsI : (2 : Int) * (L.take L.length).sum = (tb.length : Int) := by rw [List.take_length, hsum]; omega
        have hmW := hm16.ext hx17
        have hkW := hk16.ext hx17
        have hoW := ho16.ext hx17
        have hxW := hx016.trans hx17
        simp only [↓vsd, vsn, gW, qd, qv, ev, pick, argE, zipE, ne_eq, eq_self, forall_const, implies_true, if_true, if_false, reduceIte, reduceCtorEq, Nat.reduceEqDiff, Nat.reduceAdd, Nat.reduceLT, ↓us_lFnSplice, r_lFnSplice, hltI, hsI, hTd, hsv, hmW.facts, hkW.facts, fMg, fQg]
        refine ⟨inR_i64 (by omega), ?_⟩
        exact hxW
    · have hBd := decide_eq_false hB
      have hmW := hm16
      have hkW := hk16
      have hoW := ho16
      have hxW := hx016
      simp only [↓vsd, vsn, gW, qd, qv, ev, pick, argE, zipE, ne_eq, eq_self, forall_const, implies_true, if_true, if_false, reduceIte, reduceCtorEq, Nat.reduceEqDiff, Nat.reduceAdd, Nat.reduceLT, ↓us_lFnSplice, r_lFnSplice, hBd, hTd, hsv, hmW.facts, hkW.facts, fMg, fQg]
      exact hxW
end Go.Proofs.YthopbkemkfjebaaGreat
