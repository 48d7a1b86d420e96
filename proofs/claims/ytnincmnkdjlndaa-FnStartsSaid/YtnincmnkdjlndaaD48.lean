/-
  The drawing of methods with a place to begin at, and the call of the law FnStarts.
  Conditions: none.
-/
import Derived.Test.YtnincmnkdjlndaaA81
import Derived.Test.YtnincmnkdjlndaaA38
import Derived.Test.YtnincmnkdjlndaaA47
import Derived.Test.YtnincmnkdjlndaaA24
import Derived.Test.YtnincmnkdjlndaaD15
set_option linter.unusedSimpArgs false
set_option linter.unusedVariables false
set_option linter.defProp false
namespace Go.Proofs.Ytnincmnkdjlndaa
open Go Go.RowKit
section
variable (P : Program) (k : KT) (e : Env) (w : World)
abbrev b134_1 : X := (.seq (.reg [2] (.c (.q 7 [] (.mv (.t 3))) (.c (.e (some 8) [] (.call true 152 [(.t 7)])) (.c (.e none [] (.st 3 (.t 2) (.t 8))) .nil)))) .ret)
def t134_1 := b134_1
theorem u134_1 : vcK P t134_1 k e w = vcK P b134_1 k e w := rfl
abbrev b134_2 : X := (.seq (.reg [2, 3] (.c (.q 4 [] (.mv (.t 0))) (.c (.q 5 [] (.bld [(.slice none 0 0), (.int .i64 0), (.int .u64 0)] [(0, 0, (.t 4))])) (.c (.e (some 6) [] (.box 121 (.t 5))) (.c (.q 3 [] (.mv (.t 6))) .nil))))) t134_1)
def t134_2 := b134_2
theorem u134_2 : vcK P t134_2 k e w = vcK P b134_2 k e w := rfl
abbrev b134_0 : X := (.seq (.reg [0, 2] (.c (.e (some 2) [] (.al 26 [(S []), (.int .i64 0), (.slice none 0 0)])) .nil)) t134_2)
def x_sDrawGoodMethod := b134_0
theorem u134_0 : vcK P x_sDrawGoodMethod k e w = vcK P b134_0 k e w := rfl
def r_sDrawGoodMethod : List XO := [(.lda 3 (.t 2))]
theorem c_sDrawGoodMethod : convF Try.prog [147, 148, 152, 160, 162, 163, 170, 178, 206, 208, 210, 224, 233, 235, 236, 251, 264, 265, 268, 270, 287, 322] Try.f134 [([0, 2], []), ([2, 3], []), ([2], [])] = some (x_sDrawGoodMethod, r_sDrawGoodMethod) := by kernel_rfl
def us_sDrawGoodMethod :=  (aI @u134_0 (aI @u134_1 @u134_2))
abbrev b64_1 : X := (.seq (.reg [2] (.c (.q 3 [] (.mv (.t 0))) (.c (.e (some 4) [] (.call false 134 [(.t 3)])) (.c (.e none [] (.st 3 (.t 2) (.t 4))) .nil)))) .ret)
def t64_1 := b64_1
theorem u64_1 : vcK P t64_1 k e w = vcK P b64_1 k e w := rfl
abbrev b64_0 : X := (.seq (.reg [0, 2] (.c (.e (some 2) [] (.al 26 [(S []), (.int .i64 0), (.slice none 0 0)])) .nil)) t64_1)
def x_sDrawTurnMethod := b64_0
theorem u64_0 : vcK P x_sDrawTurnMethod k e w = vcK P b64_0 k e w := rfl
def r_sDrawTurnMethod : List XO := [(.lda 3 (.t 2))]
theorem c_sDrawTurnMethod : convF Try.prog [147, 148, 152, 160, 162, 163, 170, 178, 206, 208, 210, 224, 233, 235, 236, 251, 264, 265, 268, 270, 287, 322] Try.f64 [([0, 2], []), ([2], [])] = some (x_sDrawTurnMethod, r_sDrawTurnMethod) := by kernel_rfl
def us_sDrawTurnMethod :=  (aI @u64_0 @u64_1)
abbrev b57_1 : X := (.seq (.drw [2, 3] (.c (.q 12 [] (.mv (.t 4))) (.c (.q 13 [] (.fa 2 (.t 5))) (.c (.q 14 [] (.ld (.t 13))) (.c (.q 15 [] (.lens (.t 14))) (.c (.q 16 [] (.bin .add (.t 15) (.c (.int .i64 1)))) (.c (.q 18 [] (.mv (.t 4))) (.alt (.c (.p 11 [] (.lda 3 (.t 5))) (.c (.e (some 17) [] (.call true 148 [(.t 12), (.t 16)])) (.c (.e (some 19) [] (.call true 148 [(.t 18), (.c (.int .i64 20))])) (.c (.q 20 [] (.bin .quo (.t 19) (.c (.int .i64 19)))) (.c (.q 21 [] (.bin .sub (.t 17) (.t 20))) (.c (.e none [] (.st 3 (.t 2) (.t 11))) (.c (.q 3 [] (.mv (.t 21))) .nil))))))) (.c (.e (some 17) [] (.call true 148 [(.t 12), (.t 16)])) (.alt (.c (.p 11 [] (.lda 3 (.t 5))) (.c (.e (some 19) [] (.call true 148 [(.t 18), (.c (.int .i64 20))])) (.c (.q 20 [] (.bin .quo (.t 19) (.c (.int .i64 19)))) (.c (.q 21 [] (.bin .sub (.t 17) (.t 20))) (.c (.e none [] (.st 3 (.t 2) (.t 11))) (.c (.q 3 [] (.mv (.t 21))) .nil)))))) (.c (.e (some 19) [] (.call true 148 [(.t 18), (.c (.int .i64 20))])) (.c (.q 20 [] (.bin .quo (.t 19) (.c (.int .i64 19)))) (.c (.q 21 [] (.bin .sub (.t 17) (.t 20))) (.c (.p 11 [] (.lda 3 (.t 5))) (.c (.e none [] (.st 3 (.t 2) (.t 11))) (.c (.q 3 [] (.mv (.t 21))) .nil)))))))))))))))) .ret)
def t57_1 := b57_1
theorem u57_1 : vcK P t57_1 k e w = vcK P b57_1 k e w := rfl
abbrev b57_2 : X := (.seq (.reg [2, 4, 5] (.c (.q 9 [] (.mv (.t 4))) (.c (.e (some 10) [] (.call true 152 [(.t 9)])) (.c (.e (some 5) [] (.al 26 [(S []), (.int .i64 0), (.slice none 0 0)])) (.c (.e none [] (.st 3 (.t 5) (.t 10))) .nil))))) t57_1)
def t57_2 := b57_2
theorem u57_2 : vcK P t57_2 k e w = vcK P b57_2 k e w := rfl
abbrev b57_3 : X := (.seq (.reg [2, 4] (.c (.q 6 [] (.mv (.t 0))) (.c (.q 7 [] (.bld [(.slice none 0 0), (.int .i64 0), (.int .u64 0)] [(0, 0, (.t 6))])) (.c (.e (some 8) [] (.box 121 (.t 7))) (.c (.q 4 [] (.mv (.t 8))) .nil))))) t57_2)
def t57_3 := b57_3
theorem u57_3 : vcK P t57_3 k e w = vcK P b57_3 k e w := rfl
abbrev b57_0 : X := (.seq (.reg [0, 2] (.c (.e (some 2) [] (.al 26 [(S []), (.int .i64 0), (.slice none 0 0)])) (.c (.q 3 [] (.mv (.c (.int .i64 0)))) .nil))) t57_3)
def x_sDrawStartAt := b57_0
theorem u57_0 : vcK P x_sDrawStartAt k e w = vcK P b57_0 k e w := rfl
def r_sDrawStartAt : List XO := [(.lda 3 (.t 2)), (.mv (.t 3))]
theorem c_sDrawStartAt : convF Try.prog [147, 148, 152, 160, 162, 163, 170, 178, 206, 208, 210, 224, 233, 235, 236, 251, 264, 265, 268, 270, 287, 322] Try.f57 [([0, 2], []), ([2, 4], []), ([2, 4, 5], []), ([2, 3], [])] = some (x_sDrawStartAt, r_sDrawStartAt) := by kernel_rfl
def us_sDrawStartAt :=  (aI (aI @u57_0 @u57_1) (aI @u57_2 @u57_3))
abbrev b69_1 : X := (.cond (.t 19) (.reg [2, 3, 5, 6] (.c (.q 21 [] (.fa 2 (.t 6))) (.c (.q 22 [] (.ld (.t 21))) (.c (.e (some 23) [] (.bsl 9 1 [(.s [49])])) (.c (.e (some 24) [] (.app 24 9 1 16 [(S [])] 24 (.t 22) (.t 23))) (.c (.q 25 [] (.fa 2 (.t 6))) (.c (.e none [] (.st 1 (.t 25) (.t 24))) .nil))))))) .skip)
def t69_1 := b69_1
theorem u69_1 : vcK P t69_1 k e w = vcK P b69_1 k e w := rfl
abbrev b69_2 : X := (.cond (.t 16) (.reg [2, 3, 5, 6] (.c (.q 18 [] (.fa 0 (.t 6))) (.c (.e none [] (.st 1 (.t 18) (.s [111, 116, 104, 101, 114]))) .nil))) (.seq (.reg [2, 3, 5, 6, 19] (.c (.q 20 [] (.bin .eql (.t 15) (.c (.int .i64 1)))) (.c (.q 19 [] (.mv (.t 20))) .nil))) t69_1))
def t69_2 := b69_2
theorem u69_2 : vcK P t69_2 k e w = vcK P b69_2 k e w := rfl
abbrev b69_3 : X := (.blk 0 (.seq (.reg [2, 3, 5, 6, 15, 16] (.c (.q 17 [] (.bin .eql (.t 15) (.c (.int .i64 0)))) (.c (.q 16 [] (.mv (.t 17))) .nil))) t69_2))
def t69_3 := b69_3
theorem u69_3 : vcK P t69_3 k e w = vcK P b69_3 k e w := rfl
abbrev b69_4 : X := (.seq (.drw [2, 3] (.c (.q 26 [] (.lda 3 (.t 5))) (.alt (.c (.p 27 [] (.lda 3 (.t 6))) (.c (.e none [] (.st 3 (.t 2) (.t 26))) (.c (.e none [] (.st 3 (.t 3) (.t 27))) .nil))) (.c (.e none [] (.st 3 (.t 2) (.t 26))) (.c (.p 27 [] (.lda 3 (.t 6))) (.c (.e none [] (.st 3 (.t 3) (.t 27))) .nil)))))) .ret)
def t69_4 := b69_4
theorem u69_4 : vcK P t69_4 k e w = vcK P b69_4 k e w := rfl
abbrev b69_5 : X := (.seq (.seq (.reg [2, 3, 5, 6, 15] (.c (.q 14 [] (.mv (.t 4))) (.c (.e (some 15) [] (.call true 148 [(.t 14), (.c (.int .i64 4))])) .nil))) t69_3) t69_4)
def t69_5 := b69_5
theorem u69_5 : vcK P t69_5 k e w = vcK P b69_5 k e w := rfl
abbrev b69_6 : X := (.seq (.reg [2, 3, 4, 5, 6] (.c (.q 12 [] (.lda 3 (.t 5))) (.c (.e (some 13) [] (.call false 192 [(.t 12)])) (.c (.e (some 6) [] (.al 26 [(S []), (.int .i64 0), (.slice none 0 0)])) (.c (.e none [] (.st 3 (.t 6) (.t 13))) .nil))))) t69_5)
def t69_6 := b69_6
theorem u69_6 : vcK P t69_6 k e w = vcK P b69_6 k e w := rfl
abbrev b69_7 : X := (.seq (.reg [2, 3, 4, 5] (.c (.q 10 [] (.mv (.t 4))) (.c (.e (some 11) [] (.call true 152 [(.t 10)])) (.c (.e (some 5) [] (.al 26 [(S []), (.int .i64 0), (.slice none 0 0)])) (.c (.e none [] (.st 3 (.t 5) (.t 11))) .nil))))) t69_6)
def t69_7 := b69_7
theorem u69_7 : vcK P t69_7 k e w = vcK P b69_7 k e w := rfl
abbrev b69_8 : X := (.seq (.reg [2, 3, 4] (.c (.q 7 [] (.mv (.t 0))) (.c (.q 8 [] (.bld [(.slice none 0 0), (.int .i64 0), (.int .u64 0)] [(0, 0, (.t 7))])) (.c (.e (some 9) [] (.box 121 (.t 8))) (.c (.q 4 [] (.mv (.t 9))) .nil))))) t69_7)
def t69_8 := b69_8
theorem u69_8 : vcK P t69_8 k e w = vcK P b69_8 k e w := rfl
abbrev b69_0 : X := (.seq (.reg [0, 2, 3] (.c (.e (some 2) [] (.al 26 [(S []), (.int .i64 0), (.slice none 0 0)])) (.c (.e (some 3) [] (.al 26 [(S []), (.int .i64 0), (.slice none 0 0)])) .nil))) t69_8)
def x_sDrawSameMethod := b69_0
theorem u69_0 : vcK P x_sDrawSameMethod k e w = vcK P b69_0 k e w := rfl
def r_sDrawSameMethod : List XO := [(.lda 3 (.t 2)), (.lda 3 (.t 3))]
theorem c_sDrawSameMethod : convF Try.prog [147, 148, 152, 160, 162, 163, 170, 178, 206, 208, 210, 224, 233, 235, 236, 251, 264, 265, 268, 270, 287, 322] Try.f69 [([0, 2, 3], []), ([2, 3, 4], []), ([2, 3, 4, 5], []), ([2, 3, 4, 5, 6], []), ([2, 3, 5, 6, 15], []), ([2, 3, 5, 6, 15, 16], []), ([2, 3, 5, 6], []), ([2, 3, 5, 6, 19], []), ([2, 3, 5, 6], []), ([2, 3], [])] = some (x_sDrawSameMethod, r_sDrawSameMethod) := by kernel_rfl
def us_sDrawSameMethod :=  (aI (aI (aI @u69_0 @u69_1) (aI @u69_2 @u69_3)) (aI (aI @u69_4 @u69_5) (aI @u69_6 (aI @u69_7 @u69_8))))
abbrev b6_1 : X := (.cond (.t 42) (.seq (.reg [4] (.c (.q 4 [] (.mv (.c (.bool true)))) .nil)) .ret) .skip)
def t6_1 := b6_1
theorem u6_1 : vcK P t6_1 k e w = vcK P b6_1 k e w := rfl
abbrev b6_2 : X := (.cond (.t 68) (.seq (.reg [4] (.c (.q 4 [] (.mv (.c (.bool false)))) .nil)) .ret) .skip)
def t6_2 := b6_2
theorem u6_2 : vcK P t6_2 k e w = vcK P b6_2 k e w := rfl
abbrev b6_3 : X := (.cond (.t 115) (.seq (.reg [4] (.c (.q 4 [] (.mv (.c (.bool false)))) .nil)) .ret) .skip)
def t6_3 := b6_3
theorem u6_3 : vcK P t6_3 k e w = vcK P b6_3 k e w := rfl
abbrev b6_4 : X := (.cond (.t 176) (.seq (.reg [4] (.c (.q 4 [] (.mv (.c (.bool false)))) .nil)) .ret) .skip)
def t6_4 := b6_4
theorem u6_4 : vcK P t6_4 k e w = vcK P b6_4 k e w := rfl
abbrev b6_5 : X := (.seq (.reg [1, 176] (.c (.q 149 [] (.mv (.t 20))) (.c (.q 150 [] (.not (.t 149))) (.c (.q 151 [] (.mv (.t 150))) (.c (.q 152 [(151, false)] (.mv (.t 22))) (.c (.q 153 [(151, false)] (.not (.t 152))) (.c (.q 154 [] (.pick (.t 151) (.c (.bool true)) (.t 153))) (.c (.q 155 [] (.mv (.t 154))) (.c (.q 156 [(155, false)] (.mv (.t 24))) (.c (.q 157 [(155, false)] (.not (.t 156))) (.c (.q 158 [] (.pick (.t 155) (.c (.bool true)) (.t 157))) (.c (.q 159 [] (.mv (.t 158))) (.c (.q 160 [(159, false)] (.mv (.t 23))) (.c (.q 161 [(159, false)] (.mv (.t 13))) (.c (.q 162 [(159, false)] (.bin .neq (.t 160) (.t 161))) (.c (.q 163 [] (.pick (.t 159) (.c (.bool true)) (.t 162))) (.c (.q 164 [] (.mv (.t 163))) (.c (.q 165 [(164, false)] (.mv (.t 26))) (.c (.q 166 [(164, false)] (.not (.t 165))) (.c (.q 167 [] (.pick (.t 164) (.c (.bool true)) (.t 166))) (.c (.q 168 [] (.mv (.t 167))) (.c (.q 169 [(168, false)] (.mv (.t 28))) (.c (.q 170 [(168, false)] (.not (.t 169))) (.c (.q 171 [] (.pick (.t 168) (.c (.bool true)) (.t 170))) (.c (.q 172 [] (.mv (.t 171))) (.c (.q 173 [(172, false)] (.mv (.t 25))) (.c (.q 174 [(172, false)] (.mv (.t 27))) (.c (.q 175 [(172, false)] (.bin .neq (.t 173) (.t 174))) (.c (.q 176 [] (.pick (.t 172) (.c (.bool true)) (.t 175))) .nil))))))))))))))))))))))))))))) t6_4)
def t6_5 := b6_5
theorem u6_5 : vcK P t6_5 k e w = vcK P b6_5 k e w := rfl
abbrev b6_6 : X := (.seq (.reg [1, 13, 20, 22, 23, 24, 25, 26, 27, 28] (.c (.q 145 [] (.lda 3 (.t 7))) (.c (.e (some 146) [] (.call false 63 [(.t 145)])) (.c (.q 144 [] (.mv (.t 146))) (.c (.q 147 [] (.ext 0 (.t 144))) (.c (.q 148 [] (.ext 1 (.t 144))) (.c (.q 27 [] (.mv (.t 147))) (.c (.q 28 [] (.mv (.t 148))) .nil)))))))) t6_5)
def t6_6 := b6_6
theorem u6_6 : vcK P t6_6 k e w = vcK P b6_6 k e w := rfl
abbrev b6_7 : X := (.seq (.reg [1, 7, 13, 20, 22, 23, 24, 25, 26] (.c (.q 140 [] (.lda 3 (.t 5))) (.c (.e (some 141) [] (.call false 63 [(.t 140)])) (.c (.q 139 [] (.mv (.t 141))) (.c (.q 142 [] (.ext 0 (.t 139))) (.c (.q 143 [] (.ext 1 (.t 139))) (.c (.q 25 [] (.mv (.t 142))) (.c (.q 26 [] (.mv (.t 143))) .nil)))))))) t6_6)
def t6_7 := b6_7
theorem u6_7 : vcK P t6_7 k e w = vcK P b6_7 k e w := rfl
abbrev b6_8 : X := (.seq (.reg [1, 5, 7, 13, 20, 22, 23, 24] (.c (.q 134 [] (.mv (.t 19))) (.c (.q 135 [] (.mv (.t 21))) (.c (.e (some 136) [] (.call false 62 [(.t 134), (.t 135)])) (.c (.q 133 [] (.mv (.t 136))) (.c (.q 137 [] (.ext 0 (.t 133))) (.c (.q 138 [] (.ext 1 (.t 133))) (.c (.q 23 [] (.mv (.t 137))) (.c (.q 24 [] (.mv (.t 138))) .nil))))))))) t6_7)
def t6_8 := b6_8
theorem u6_8 : vcK P t6_8 k e w = vcK P b6_8 k e w := rfl
abbrev b6_9 : X := (.seq (.reg [1, 5, 7, 13, 19, 20, 21, 22] (.c (.q 125 [] (.mv (.t 11))) (.c (.q 126 [] (.mv (.t 17))) (.c (.q 127 [] (.mv (.t 6))) (.c (.q 128 [] (.ia 1 (.t 126) (.t 127))) (.c (.q 129 [] (.ld (.t 128))) (.c (.e (some 130) [] (.call false 62 [(.t 125), (.t 129)])) (.c (.q 124 [] (.mv (.t 130))) (.c (.q 131 [] (.ext 0 (.t 124))) (.c (.q 132 [] (.ext 1 (.t 124))) (.c (.q 21 [] (.mv (.t 131))) (.c (.q 22 [] (.mv (.t 132))) .nil)))))))))))) t6_8)
def t6_9 := b6_9
theorem u6_9 : vcK P t6_9 k e w = vcK P b6_9 k e w := rfl
abbrev b6_10 : X := (.seq (.reg [1, 5, 6, 7, 11, 13, 17, 19, 20] (.c (.q 117 [] (.mv (.t 17))) (.c (.q 118 [] (.mv (.t 6))) (.c (.q 119 [] (.ia 1 (.t 117) (.t 118))) (.c (.q 120 [] (.ld (.t 119))) (.c (.e (some 121) [] (.call false 61 [(.t 120)])) (.c (.q 116 [] (.mv (.t 121))) (.c (.q 122 [] (.ext 0 (.t 116))) (.c (.q 123 [] (.ext 1 (.t 116))) (.c (.q 19 [] (.mv (.t 122))) (.c (.q 20 [] (.mv (.t 123))) .nil))))))))))) t6_9)
def t6_10 := b6_10
theorem u6_10 : vcK P t6_10 k e w = vcK P b6_10 k e w := rfl
abbrev b6_11 : X := (.seq (.seq (.reg [1, 5, 6, 7, 11, 13, 17, 115] (.c (.q 92 [] (.mv (.t 12))) (.c (.q 93 [] (.not (.t 92))) (.c (.q 94 [] (.mv (.t 93))) (.c (.q 95 [(94, false)] (.mv (.t 14))) (.c (.q 96 [(94, false)] (.not (.t 95))) (.c (.q 97 [] (.pick (.t 94) (.c (.bool true)) (.t 96))) (.c (.q 98 [] (.mv (.t 97))) (.c (.q 99 [(98, false)] (.mv (.t 16))) (.c (.q 100 [(98, false)] (.not (.t 99))) (.c (.q 101 [] (.pick (.t 98) (.c (.bool true)) (.t 100))) (.c (.q 102 [] (.mv (.t 101))) (.c (.q 103 [(102, false)] (.mv (.t 18))) (.c (.q 104 [(102, false)] (.not (.t 103))) (.c (.q 105 [] (.pick (.t 102) (.c (.bool true)) (.t 104))) (.c (.q 106 [] (.mv (.t 105))) (.c (.q 107 [(106, false)] (.mv (.t 6))) (.c (.q 108 [(106, false)] (.bin .lss (.t 107) (.c (.int .i64 0)))) (.c (.q 109 [] (.pick (.t 106) (.c (.bool true)) (.t 108))) (.c (.q 110 [] (.mv (.t 109))) (.c (.q 111 [(110, false)] (.mv (.t 6))) (.c (.q 112 [(110, false)] (.mv (.t 17))) (.c (.q 113 [(110, false)] (.lens (.t 112))) (.c (.q 114 [(110, false)] (.bin .geq (.t 111) (.t 113))) (.c (.q 115 [] (.pick (.t 110) (.c (.bool true)) (.t 114))) .nil))))))))))))))))))))))))) t6_3) t6_10)
def t6_11 := b6_11
theorem u6_11 : vcK P t6_11 k e w = vcK P b6_11 k e w := rfl
abbrev b6_12 : X := (.seq (.reg [1, 5, 6, 7, 11, 12, 13, 14, 16, 17, 18] (.c (.q 87 [] (.lda 3 (.t 5))) (.c (.q 88 [] (.mv (.t 15))) (.c (.e (some 89) [] (.call false 21 [(.t 87), (.t 88)])) (.c (.q 86 [] (.mv (.t 89))) (.c (.q 90 [] (.ext 0 (.t 86))) (.c (.q 91 [] (.ext 1 (.t 86))) (.c (.q 17 [] (.mv (.t 90))) (.c (.q 18 [] (.mv (.t 91))) .nil))))))))) t6_11)
def t6_12 := b6_12
theorem u6_12 : vcK P t6_12 k e w = vcK P b6_12 k e w := rfl
abbrev b6_13 : X := (.seq (.reg [1, 5, 6, 7, 11, 12, 13, 14, 15, 16] (.c (.q 81 [] (.fa 1 (.t 5))) (.c (.q 82 [] (.ld (.t 81))) (.c (.e (some 83) [] (.call false 20 [(.t 82)])) (.c (.q 80 [] (.mv (.t 83))) (.c (.q 84 [] (.ext 0 (.t 80))) (.c (.q 85 [] (.ext 1 (.t 80))) (.c (.q 15 [] (.mv (.t 84))) (.c (.q 16 [] (.mv (.t 85))) .nil))))))))) t6_12)
def t6_13 := b6_13
theorem u6_13 : vcK P t6_13 k e w = vcK P b6_13 k e w := rfl
abbrev b6_14 : X := (.seq (.reg [1, 5, 6, 7, 11, 12, 13, 14] (.c (.q 76 [] (.lda 3 (.t 7))) (.c (.e (some 77) [] (.call false 22 [(.t 76)])) (.c (.q 75 [] (.mv (.t 77))) (.c (.q 78 [] (.ext 0 (.t 75))) (.c (.q 79 [] (.ext 1 (.t 75))) (.c (.q 13 [] (.mv (.t 78))) (.c (.q 14 [] (.mv (.t 79))) .nil)))))))) t6_13)
def t6_14 := b6_14
theorem u6_14 : vcK P t6_14 k e w = vcK P b6_14 k e w := rfl
abbrev b6_15 : X := (.cond (.t 69) (.seq (.reg [1, 5, 6, 7, 11, 12] (.c (.q 71 [] (.lda 3 (.t 5))) (.c (.e (some 72) [] (.call false 22 [(.t 71)])) (.c (.q 70 [] (.mv (.t 72))) (.c (.q 73 [] (.ext 0 (.t 70))) (.c (.q 74 [] (.ext 1 (.t 70))) (.c (.q 11 [] (.mv (.t 73))) (.c (.q 12 [] (.mv (.t 74))) .nil)))))))) t6_14) .skip)
def t6_15 := b6_15
theorem u6_15 : vcK P t6_15 k e w = vcK P b6_15 k e w := rfl
abbrev b6_16 : X := (.seq (.drw [4] (.c (.q 204 [] (.mv (.t 31))) (.c (.q 205 [] (.mv (.t 33))) (.c (.q 206 [] (.beq false (.t 204) (.t 205))) (.c (.q 207 [] (.mv (.t 206))) (.c (.q 208 [(207, true)] (.lda 3 (.t 30))) (.c (.q 209 [(207, true)] (.lda 3 (.t 32))) (.c (.e (some 210) [(207, true)] (.call false 60 [(.t 208), (.t 209)])) (.c (.q 211 [] (.pick (.t 207) (.t 210) (.c (.bool false)))) (.c (.q 212 [] (.mv (.t 211))) (.c (.q 213 [(212, true)] (.mv (.t 35))) (.c (.q 214 [(212, true)] (.mv (.t 37))) (.c (.q 215 [(212, true)] (.beq false (.t 213) (.t 214))) (.c (.q 216 [] (.pick (.t 212) (.t 215) (.c (.bool false)))) (.c (.q 217 [] (.mv (.t 216))) (.c (.q 218 [(217, true)] (.mv (.t 34))) (.c (.q 219 [(217, true)] (.mv (.t 36))) (.c (.q 220 [(217, true)] (.beq false (.t 218) (.t 219))) (.c (.q 221 [] (.pick (.t 217) (.t 220) (.c (.bool false)))) (.c (.q 222 [] (.mv (.t 221))) (.c (.q 223 [(222, true)] (.lda 3 (.t 38))) (.c (.q 224 [(222, true)] (.lda 3 (.t 39))) (.c (.q 226 [(222, true)] (.lda 3 (.t 38))) (.c (.q 227 [(222, true)] (.lda 3 (.t 39))) (.c (.e (some 225) [(222, true)] (.call false 70 [(.t 223), (.t 224)])) (.c (.e (some 228) [(222, true)] (.call false 60 [(.t 226), (.t 227)])) (.c (.q 229 [(222, true)] (.beq false (.t 225) (.t 228))) (.c (.q 230 [] (.pick (.t 222) (.t 229) (.c (.bool false)))) (.c (.q 4 [] (.mv (.t 230))) .nil))))))))))))))))))))))))))))) .ret)
def t6_16 := b6_16
theorem u6_16 : vcK P t6_16 k e w = vcK P b6_16 k e w := rfl
abbrev b6_17 : X := (.seq (.reg [30, 31, 32, 33, 34, 35, 36, 37, 38, 39] (.c (.q 200 [] (.mv (.t 1))) (.c (.e (some 201) [] (.call false 69 [(.t 200)])) (.c (.q 199 [] (.mv (.t 201))) (.c (.q 202 [] (.ext 0 (.t 199))) (.c (.q 203 [] (.ext 1 (.t 199))) (.c (.e (some 38) [] (.al 26 [(S []), (.int .i64 0), (.slice none 0 0)])) (.c (.e (some 39) [] (.al 26 [(S []), (.int .i64 0), (.slice none 0 0)])) (.c (.e none [] (.st 3 (.t 38) (.t 202))) (.c (.e none [] (.st 3 (.t 39) (.t 203))) .nil)))))))))) t6_16)
def t6_17 := b6_17
theorem u6_17 : vcK P t6_17 k e w = vcK P b6_17 k e w := rfl
abbrev b6_18 : X := (.seq (.reg [1, 30, 31, 32, 33, 34, 35, 36, 37] (.c (.q 195 [] (.lda 3 (.t 29))) (.c (.e (some 196) [] (.call false 68 [(.t 195)])) (.c (.q 194 [] (.mv (.t 196))) (.c (.q 197 [] (.ext 0 (.t 194))) (.c (.q 198 [] (.ext 1 (.t 194))) (.c (.q 36 [] (.mv (.t 197))) (.c (.q 37 [] (.mv (.t 198))) .nil)))))))) t6_17)
def t6_18 := b6_18
theorem u6_18 : vcK P t6_18 k e w = vcK P b6_18 k e w := rfl
abbrev b6_19 : X := (.seq (.reg [1, 29, 30, 31, 32, 33, 34, 35] (.c (.q 190 [] (.lda 3 (.t 29))) (.c (.e (some 191) [] (.call false 67 [(.t 190)])) (.c (.q 189 [] (.mv (.t 191))) (.c (.q 192 [] (.ext 0 (.t 189))) (.c (.q 193 [] (.ext 1 (.t 189))) (.c (.q 34 [] (.mv (.t 192))) (.c (.q 35 [] (.mv (.t 193))) .nil)))))))) t6_18)
def t6_19 := b6_19
theorem u6_19 : vcK P t6_19 k e w = vcK P b6_19 k e w := rfl
abbrev b6_20 : X := (.seq (.reg [1, 29, 30, 31, 32, 33] (.c (.q 185 [] (.lda 3 (.t 29))) (.c (.e (some 186) [] (.call false 66 [(.t 185)])) (.c (.q 184 [] (.mv (.t 186))) (.c (.q 187 [] (.ext 0 (.t 184))) (.c (.q 188 [] (.ext 1 (.t 184))) (.c (.e (some 32) [] (.al 26 [(S []), (.int .i64 0), (.slice none 0 0)])) (.c (.e none [] (.st 3 (.t 32) (.t 187))) (.c (.q 33 [] (.mv (.t 188))) .nil))))))))) t6_19)
def t6_20 := b6_20
theorem u6_20 : vcK P t6_20 k e w = vcK P b6_20 k e w := rfl
abbrev b6_21 : X := (.seq (.reg [1, 29, 30, 31] (.c (.q 180 [] (.lda 3 (.t 29))) (.c (.e (some 181) [] (.call false 65 [(.t 180)])) (.c (.q 179 [] (.mv (.t 181))) (.c (.q 182 [] (.ext 0 (.t 179))) (.c (.q 183 [] (.ext 1 (.t 179))) (.c (.e (some 30) [] (.al 26 [(S []), (.int .i64 0), (.slice none 0 0)])) (.c (.e none [] (.st 3 (.t 30) (.t 182))) (.c (.q 31 [] (.mv (.t 183))) .nil))))))))) t6_20)
def t6_21 := b6_21
theorem u6_21 : vcK P t6_21 k e w = vcK P b6_21 k e w := rfl
abbrev b6_22 : X := (.seq (.reg [1, 29] (.c (.q 177 [] (.mv (.t 1))) (.c (.e (some 178) [] (.call false 64 [(.t 177)])) (.c (.e (some 29) [] (.al 26 [(S []), (.int .i64 0), (.slice none 0 0)])) (.c (.e none [] (.st 3 (.t 29) (.t 178))) .nil))))) t6_21)
def t6_22 := b6_22
theorem u6_22 : vcK P t6_22 k e w = vcK P b6_22 k e w := rfl
abbrev b6_23 : X := (.seq (.seq (.reg [1, 5, 6, 7, 69] (.c (.q 69 [] (.mv (.t 8))) .nil)) t6_15) t6_22)
def t6_23 := b6_23
theorem u6_23 : vcK P t6_23 k e w = vcK P b6_23 k e w := rfl
abbrev b6_24 : X := (.seq (.seq (.reg [1, 5, 6, 7, 8, 68] (.c (.q 60 [] (.mv (.t 8))) (.c (.q 61 [] (.mv (.t 10))) (.c (.q 62 [] (.beq true (.t 60) (.t 61))) (.c (.q 63 [] (.mv (.t 62))) (.c (.q 64 [(63, false)] (.lda 3 (.t 7))) (.c (.q 65 [(63, false)] (.lda 3 (.t 9))) (.c (.e (some 66) [(63, false)] (.call false 60 [(.t 64), (.t 65)])) (.c (.q 67 [(63, false)] (.not (.t 66))) (.c (.q 68 [] (.pick (.t 63) (.c (.bool true)) (.t 67))) .nil)))))))))) t6_2) t6_23)
def t6_24 := b6_24
theorem u6_24 : vcK P t6_24 k e w = vcK P b6_24 k e w := rfl
abbrev b6_25 : X := (.seq (.reg [1, 5, 6, 7, 8, 9, 10] (.c (.q 55 [] (.lda 3 (.t 5))) (.c (.q 56 [] (.mv (.t 6))) (.c (.e (some 57) [] (.call false 59 [(.t 55), (.t 56)])) (.c (.q 54 [] (.mv (.t 57))) (.c (.q 58 [] (.ext 0 (.t 54))) (.c (.q 59 [] (.ext 1 (.t 54))) (.c (.e (some 9) [] (.al 26 [(S []), (.int .i64 0), (.slice none 0 0)])) (.c (.e none [] (.st 3 (.t 9) (.t 58))) (.c (.q 10 [] (.mv (.t 59))) .nil)))))))))) t6_24)
def t6_25 := b6_25
theorem u6_25 : vcK P t6_25 k e w = vcK P b6_25 k e w := rfl
abbrev b6_26 : X := (.seq (.reg [1, 5, 6, 7, 8] (.c (.q 49 [] (.lda 3 (.t 5))) (.c (.q 50 [] (.mv (.t 6))) (.c (.e (some 51) [] (.call false 58 [(.t 49), (.t 50)])) (.c (.q 48 [] (.mv (.t 51))) (.c (.q 52 [] (.ext 0 (.t 48))) (.c (.q 53 [] (.ext 1 (.t 48))) (.c (.e (some 7) [] (.al 26 [(S []), (.int .i64 0), (.slice none 0 0)])) (.c (.e none [] (.st 3 (.t 7) (.t 52))) (.c (.q 8 [] (.mv (.t 53))) .nil)))))))))) t6_25)
def t6_26 := b6_26
theorem u6_26 : vcK P t6_26 k e w = vcK P b6_26 k e w := rfl
abbrev b6_27 : X := (.seq (.reg [1, 5, 6] (.c (.q 44 [] (.mv (.t 0))) (.c (.e (some 45) [] (.call false 57 [(.t 44)])) (.c (.q 43 [] (.mv (.t 45))) (.c (.q 46 [] (.ext 0 (.t 43))) (.c (.q 47 [] (.ext 1 (.t 43))) (.c (.e (some 5) [] (.al 26 [(S []), (.int .i64 0), (.slice none 0 0)])) (.c (.e none [] (.st 3 (.t 5) (.t 46))) (.c (.q 6 [] (.mv (.t 47))) .nil))))))))) t6_26)
def t6_27 := b6_27
theorem u6_27 : vcK P t6_27 k e w = vcK P b6_27 k e w := rfl
abbrev b6_28 : X := (.seq (.seq (.reg [0, 1, 42] (.c (.q 40 [] (.mv (.t 0))) (.c (.q 41 [] (.mv (.t 1))) (.c (.e (some 42) [] (.call false 14 [(.t 40), (.t 41)])) .nil)))) t6_1) t6_27)
def t6_28 := b6_28
theorem u6_28 : vcK P t6_28 k e w = vcK P b6_28 k e w := rfl
abbrev b6_0 : X := (.seq (.reg [0, 1] (.c (.q 4 [] (.mv (.c (.bool false)))) .nil)) t6_28)
def x_lFnStarts := b6_0
theorem u6_0 : vcK P x_lFnStarts k e w = vcK P b6_0 k e w := rfl
def r_lFnStarts : List XO := [(.mv (.t 4))]
theorem c_lFnStarts : convF Try.prog [147, 148, 152, 160, 162, 163, 170, 178, 206, 208, 210, 224, 233, 235, 236, 251, 264, 265, 268, 270, 287, 322] Try.f6 [([0, 1], []), ([0, 1, 42], []), ([4], []), ([1, 5, 6], []), ([1, 5, 6, 7, 8], []), ([1, 5, 6, 7, 8, 9, 10], []), ([1, 5, 6, 7, 8, 68], []), ([4], []), ([1, 5, 6, 7, 69], []), ([1, 5, 6, 7, 11, 12], []), ([1, 5, 6, 7, 11, 12, 13, 14], []), ([1, 5, 6, 7, 11, 12, 13, 14, 15, 16], []), ([1, 5, 6, 7, 11, 12, 13, 14, 16, 17, 18], []), ([1, 5, 6, 7, 11, 13, 17, 115], []), ([4], []), ([1, 5, 6, 7, 11, 13, 17, 19, 20], []), ([1, 5, 7, 13, 19, 20, 21, 22], []), ([1, 5, 7, 13, 20, 22, 23, 24], []), ([1, 7, 13, 20, 22, 23, 24, 25, 26], []), ([1, 13, 20, 22, 23, 24, 25, 26, 27, 28], []), ([1, 176], []), ([4], []), ([1, 29], []), ([1, 29, 30, 31], []), ([1, 29, 30, 31, 32, 33], []), ([1, 29, 30, 31, 32, 33, 34, 35], []), ([1, 30, 31, 32, 33, 34, 35, 36, 37], []), ([30, 31, 32, 33, 34, 35, 36, 37, 38, 39], []), ([4], [])] = some (x_lFnStarts, r_lFnStarts) := by kernel_rfl
def us_lFnStarts :=  (aI (aI (aI (aI @u6_0 (aI @u6_1 @u6_2)) (aI (aI @u6_3 @u6_4) (aI @u6_5 @u6_6))) (aI (aI @u6_7 (aI @u6_8 @u6_9)) (aI (aI @u6_10 @u6_11) (aI @u6_12 @u6_13)))) (aI (aI (aI @u6_14 (aI @u6_15 @u6_16)) (aI (aI @u6_17 @u6_18) (aI @u6_19 @u6_20))) (aI (aI (aI @u6_21 @u6_22) (aI @u6_23 @u6_24)) (aI (aI @u6_25 @u6_26) (aI @u6_27 @u6_28)))))
end

theorem sDrawGoodMethod_oks (v : Value) (code : List UInt8) (hl : code.length ≤ 1048576) (w : World) (h : Sq fU 1 w v code) : Fn 134 [v] w (fun r w' => AnyM w.heap.size r w') := by
  (refine callsV_of mix Try.func134 c_sDrawGoodMethod ?_; simp only [↓vsd, vsn, gW, qd, qv, ev, pick, argE, zipE, ne_eq, eq_self, forall_const, implies_true, if_true, if_false, reduceIte, reduceCtorEq, Nat.reduceEqDiff, Nat.reduceAdd, Nat.reduceLT, ↓us_sDrawGoodMethod, r_sDrawGoodMethod])
  refine m_al ?_
  rintro b0 w0 hb0 hblk0 hx0 hs0
  have h0 := h.ext hx0
  simp only [↓vsd, vsn, gW, qd, qv, ev, pick, argE, zipE, ne_eq, eq_self, forall_const, implies_true, if_true, if_false, reduceIte, reduceCtorEq, Nat.reduceEqDiff, Nat.reduceAdd, Nat.reduceLT, ↓us_sDrawGoodMethod, r_sDrawGoodMethod, h0.facts]
  refine m_al ?_
  rintro b w1 hb hblk hx1 hs1
  have hc := Cur.new h0 hl hb hblk hx1
  simp only [↓vsd, vsn, gW, qd, qv, ev, pick, argE, zipE, ne_eq, eq_self, forall_const, implies_true, if_true, if_false, reduceIte, reduceCtorEq, Nat.reduceEqDiff, Nat.reduceAdd, Nat.reduceLT, ↓us_sDrawGoodMethod, r_sDrawGoodMethod]
  refine m_callw (.inl rfl) (sl1Cur_anyMethod_ok w0 b _ w1 (by omega) hc) ?_
  rintro _ w3 ⟨hc3, hg3, nm, st, x, cs, rfl, ho, hm⟩
  have hb01 := Blk.ext hblk0 hx1
  have hb03 := hb01.same (hg3.block b0 hb01.lt (fun e => by have := Option.some.inj e; omega))
  simp only [↓vsd, vsn, gW, qd, qv, ev, pick, argE, zipE, ne_eq, eq_self, forall_const, implies_true, if_true, if_false, reduceIte, reduceCtorEq, Nat.reduceEqDiff, Nat.reduceAdd, Nat.reduceLT, ↓us_sDrawGoodMethod, r_sDrawGoodMethod]
  refine m_st hb03 rfl (Nat.le_refl 3) (fM_one nm st _ ho.sq.one') ?_
  rintro w4 hblk4 hu4
  have hb4 : Blk w4 b0 (fM nm st x) 26 := hblk4
  simp only [↓vsd, vsn, gW, qd, qv, ev, pick, argE, zipE, ne_eq, eq_self, forall_const, implies_true, if_true, if_false, reduceIte, reduceCtorEq, Nat.reduceEqDiff, Nat.reduceAdd, Nat.reduceLT, ↓us_sDrawGoodMethod, r_sDrawGoodMethod, hb4.facts, fMg]
  exact ⟨hu4.below (hx0.trans hc3.base) (by omega), nm, st, x, cs, rfl, (ho.upd hu4 (ho.away' (by have := hb01.lt; omega))).mono (hx0.trans hx1).size, hm⟩
theorem sDrawTurnMethod_ok (v : Value) (code : List UInt8) (hl : code.length ≤ 1048576) (w : World) (h : Sq fU 1 w v code) : Fn 64 [v] w (fun r w' => AnyM w.heap.size r w') := by
  (refine callsV_of mix Try.func64 c_sDrawTurnMethod ?_; simp only [↓vsd, vsn, gW, qd, qv, ev, pick, argE, zipE, ne_eq, eq_self, forall_const, implies_true, if_true, if_false, reduceIte, reduceCtorEq, Nat.reduceEqDiff, Nat.reduceAdd, Nat.reduceLT, ↓us_sDrawTurnMethod, r_sDrawTurnMethod])
  refine m_al ?_
  rintro b0 w0 hb0 hblk0 hx0 hs0
  simp only [↓vsd, vsn, gW, qd, qv, ev, pick, argE, zipE, ne_eq, eq_self, forall_const, implies_true, if_true, if_false, reduceIte, reduceCtorEq, Nat.reduceEqDiff, Nat.reduceAdd, Nat.reduceLT, ↓us_sDrawTurnMethod, r_sDrawTurnMethod]
  refine m_call (sDrawGoodMethod_oks v code hl _ (h.ext hx0)) ?_
  rintro _ w1 hx1 ⟨nm, st, x, cs, rfl, ho, hm⟩
  simp only [↓vsd, vsn, gW, qd, qv, ev, pick, argE, zipE, ne_eq, eq_self, forall_const, implies_true, if_true, if_false, reduceIte, reduceCtorEq, Nat.reduceEqDiff, Nat.reduceAdd, Nat.reduceLT, ↓us_sDrawTurnMethod, r_sDrawTurnMethod]
  refine m_st (Blk.ext hblk0 hx1) rfl (Nat.le_refl 3) (fM_one nm st _ ho.sq.one') ?_
  rintro w4 hblk4 hu4
  have hb4 : Blk w4 b0 (fM nm st x) 26 := hblk4
  simp only [↓vsd, vsn, gW, qd, qv, ev, pick, argE, zipE, ne_eq, eq_self, forall_const, implies_true, if_true, if_false, reduceIte, reduceCtorEq, Nat.reduceEqDiff, Nat.reduceAdd, Nat.reduceLT, ↓us_sDrawTurnMethod, r_sDrawTurnMethod, hb4.facts, fMg]
  exact ⟨hu4.below (hx0.trans hx1) (by omega), nm, st, x, cs, rfl, (ho.upd hu4 (ho.away' (by omega))).mono hx0.size, hm⟩
theorem iTurnMethod_no (nm : List UInt8) (st : Int) (v : Value) (cs : List (List UInt8)) (hm : ¬ IsMethod nm st cs) (hnm : nm.length ≤ 1048576) (hs : ∀ c ∈ cs, c.length ≤ 1048576) (hl : cs.length ≤ 1000000000) (w : World) (h : Sq fS 1 w v cs) : Fn 65 [mV nm st v] w (fun r _ => r = noM) := by
  (refine callsV_of mix Try.func65 c_iTurnMethod ?_; simp only [↓vsd, vsn, gW, qd, qv, ev, pick, argE, zipE, ne_eq, eq_self, forall_const, implies_true, if_true, if_false, reduceIte, reduceCtorEq, Nat.reduceEqDiff, Nat.reduceAdd, Nat.reduceLT, ↓us_iTurnMethod, r_iTurnMethod])
  refine m_al ?_
  rintro b w1 hb hblk hx1 hs1
  have h1 : Blk w1 b (fM nm st v) 26 := hblk
  simp only [↓vsd, vsn, gW, qd, qv, ev, pick, argE, zipE, ne_eq, eq_self, forall_const, implies_true, if_true, if_false, reduceIte, reduceCtorEq, Nat.reduceEqDiff, Nat.reduceAdd, Nat.reduceLT, ↓us_iTurnMethod, r_iTurnMethod]
  refine m_al ?_
  rintro b0 w0 hb0 hblk0 hx0 hs0
  have h0 := h1.ext hx0
  have hx10 := hx1.trans hx0
  simp only [↓vsd, vsn, gW, qd, qv, ev, pick, argE, zipE, ne_eq, eq_self, forall_const, implies_true, if_true, if_false, reduceIte, reduceCtorEq, Nat.reduceEqDiff, Nat.reduceAdd, Nat.reduceLT, ↓us_iTurnMethod, r_iTurnMethod, h0.facts, fMg]
  refine m_call (iGoodMethod_ok nm st v cs hnm hs hl _ (h.ext hx10)) ?_
  rintro _ w2 hx2 rfl
  have hx12 := hx10.trans hx2
  have h23 : Blk w2 b0 (fM [] 0 (.slice none 0 0)) 26 := hblk0.ext hx2
  simp only [↓vsd, vsn, gW, qd, qv, ev, pick, argE, zipE, ne_eq, eq_self, forall_const, implies_true, if_true, if_false, reduceIte, reduceCtorEq, Nat.reduceEqDiff, Nat.reduceAdd, Nat.reduceLT, ↓us_iTurnMethod, r_iTurnMethod, hm, h23.facts, fMg]
  refine m_st h23 rfl (Nat.le_refl 3) (fM_one [] 0 (.slice none 0 0) rfl) ?_
  rintro w6 hblk6 hu6
  have h6 : Blk w6 b0 (fM [] 0 (.slice none 0 0)) 26 := hblk6
  simp only [↓vsd, vsn, gW, qd, qv, ev, pick, argE, zipE, ne_eq, eq_self, forall_const, implies_true, if_true, if_false, reduceIte, reduceCtorEq, Nat.reduceEqDiff, Nat.reduceAdd, Nat.reduceLT, ↓us_iTurnMethod, r_iTurnMethod, h6.facts, fMg]
  exact ⟨hu6.below hx12 (by have := hx1.size; omega), rfl⟩
def MB (nm : Bs) (cs : List Bs) : Prop := nm.length ≤ 11 ∧ cs.length ≤ 61 ∧ ∀ c ∈ cs, c.length ≤ 8
theorem sDrawStartAt_ok (v : Value) (code : List UInt8) (hl : code.length ≤ 1048576) (w : World) (h : Sq fU 1 w v code) : Fn 57 [v] w (fun r w' => ∃ nm st x cs k, r = .tuple ⟨[mV nm st x, .int .i64 k]⟩ ∧ Sq fS 1 w' x cs ∧ MB nm cs) := by
  (refine callsV_of mix Try.func57 c_sDrawStartAt ?_; simp only [↓vsd, vsn, gW, qd, qv, ev, pick, argE, zipE, ne_eq, eq_self, forall_const, implies_true, if_true, if_false, reduceIte, reduceCtorEq, Nat.reduceEqDiff, Nat.reduceAdd, Nat.reduceLT, ↓us_sDrawStartAt, r_sDrawStartAt])
  refine m_al ?_
  rintro b0 w0 hb0 hblk0 hx0 hs0
  have h0 := h.ext hx0
  simp only [↓vsd, vsn, gW, qd, qv, ev, pick, argE, zipE, ne_eq, eq_self, forall_const, implies_true, if_true, if_false, reduceIte, reduceCtorEq, Nat.reduceEqDiff, Nat.reduceAdd, Nat.reduceLT, ↓us_sDrawStartAt, r_sDrawStartAt, h0.facts]
  refine m_al ?_
  rintro b w1 hb hblk hx1 hs1
  have hc := Cur.new h0 hl hb hblk hx1
  simp only [↓vsd, vsn, gW, qd, qv, ev, pick, argE, zipE, ne_eq, eq_self, forall_const, implies_true, if_true, if_false, reduceIte, reduceCtorEq, Nat.reduceEqDiff, Nat.reduceAdd, Nat.reduceLT, ↓us_sDrawStartAt, r_sDrawStartAt]
  refine m_callw (.inl rfl) (sl1Cur_anyMethod_ok w0 b _ w1 (by omega) hc) ?_
  rintro _ w2 ⟨hc2, hg2, nm, st, x, cs, rfl, ho2, hm⟩
  have hb02 := (hblk0.ext hx1).same (hg2.block b0 (hblk0.ext hx1).lt (fun e => by have := Option.some.inj e; omega))
  simp only [↓vsd, vsn, gW, qd, qv, ev, pick, argE, zipE, ne_eq, eq_self, forall_const, implies_true, if_true, if_false, reduceIte, reduceCtorEq, Nat.reduceEqDiff, Nat.reduceAdd, Nat.reduceLT, ↓us_sDrawStartAt, r_sDrawStartAt]
  refine m_al ?_
  rintro b3 w3 hb3 hblk3 hx3 hs3
  simp only [↓vsd, vsn, gW, qd, qv, ev, pick, argE, zipE, ne_eq, eq_self, forall_const, implies_true, if_true, if_false, reduceIte, reduceCtorEq, Nat.reduceEqDiff, Nat.reduceAdd, Nat.reduceLT, ↓us_sDrawStartAt, r_sDrawStartAt]
  refine m_st hblk3 rfl (Nat.le_refl 3) (fM_one nm st x ho2.sq.one') ?_
  rintro w4 hblk4 hu4
  have h4 : Blk w4 b3 (fM nm st x) 26 := hblk4
  have hlt2 := hc2.lt
  have hb04 := hu4.blk (hb02.ext hx3) (by have := hb02.lt; omega)
  have ho4 := (ho2.ext hx3).upd hu4 (ho2.away (by omega))
  have hg24 : w2.grownBy w4 (some b3) := grown_trans (grown_ext _ hx3) hu4.grown
  have hc4 := hc2.keep hg24 (fun c hc => by have := Option.some.inj hc; omega)
  simp only [↓vsd, vsn, gW, qd, qv, ev, pick, argE, zipE, ne_eq, eq_self, forall_const, implies_true, if_true, if_false, reduceIte, reduceCtorEq, Nat.reduceEqDiff, Nat.reduceAdd, Nat.reduceLT, ↓us_sDrawStartAt, r_sDrawStartAt, h4.facts, fMg, ho4.sq.facts]
  have hcl := hm.2.2.1
  refine ⟨inR_i64 (by omega), ?_⟩
  repeat' with_reducible apply And.intro
  all_goals
    refine m_callw (by first | exact .inl rfl | exact .inr rfl) (sl1Cur_pick_ok w0 b (0 + 200) ((cs.length : Int) + 1) (by omega) _ (by omega) (by first | exact hc4 | exact hc4.ext (dr (Ext.refl _)))) ?_
    rintro _ w5 ⟨hc5, hg5, p, rfl, hp⟩
    have hg5 : w4.grownBy w5 (some b) := by first | exact hg5 | exact gud hg5
    have h5 := h4.same (hg5.block b3 h4.lt (fun e => by have := Option.some.inj e; omega))
    have hb05 := hb04.same (hg5.block b0 hb04.lt (fun e => by have := Option.some.inj e; omega))
    simp only [↓vsd, vsn, gW, qd, qv, ev, pick, argE, zipE, ne_eq, eq_self, forall_const, implies_true, if_true, if_false, reduceIte, reduceCtorEq, Nat.reduceEqDiff, Nat.reduceAdd, Nat.reduceLT, ↓us_sDrawStartAt, r_sDrawStartAt, h4.facts, h5.facts, fMg]
    repeat' with_reducible apply And.intro
    all_goals
      refine m_callw (by first | exact .inl rfl | exact .inr rfl) (sl1Cur_pick_ok w0 b (0 + 200 + 2) 20 (by omega) _ (by omega) (by first | exact hc5 | exact hc5.ext (dr (Ext.refl _)))) ?_
      rintro _ w6 ⟨hc6, hg6, q, rfl, hq⟩
      have hg6 : w5.grownBy w6 (some b) := by first | exact hg6 | exact gud hg6
      have h6 := h5.same (hg6.block b3 h5.lt (fun e => by have := Option.some.inj e; omega))
      have hb06 := hb05.same (hg6.block b0 hb05.lt (fun e => by have := Option.some.inj e; omega))
      have ho6 := (ho4.keep hg5 (fun c hc => by have := Option.some.inj hc; omega)).keep hg6 (fun c hc => by have := Option.some.inj hc; omega)
      have hd : ((q : Nat) : Int).tdiv 19 = ((q / 19 : Nat) : Int) := rfl
      have hq1 : q / 19 ≤ 1 := by omega
      simp only [↓vsd, vsn, gW, qd, qv, ev, pick, argE, zipE, ne_eq, eq_self, forall_const, implies_true, if_true, if_false, reduceIte, reduceCtorEq, Nat.reduceEqDiff, Nat.reduceAdd, Nat.reduceLT, ↓us_sDrawStartAt, r_sDrawStartAt, h4.facts, h5.facts, h6.facts, fMg, hd]
      generalize q / 19 = z at *
      refine ⟨⟨by decide, inR_i64 (by omega)⟩, inR_i64 (by omega), m_st hb06 rfl (Nat.le_refl 3) (fM_one nm st x ho6.sq.one') ?_⟩
      rintro w7 hblk7 hu7
      have h7 : Blk w7 b0 (fM nm st x) 26 := hblk7
      simp only [↓vsd, vsn, gW, qd, qv, ev, pick, argE, zipE, ne_eq, eq_self, forall_const, implies_true, if_true, if_false, reduceIte, reduceCtorEq, Nat.reduceEqDiff, Nat.reduceAdd, Nat.reduceLT, ↓us_sDrawStartAt, r_sDrawStartAt, h7.facts, fMg]
      exact ⟨hu7.below (hx0.trans hc6.base) (by omega), nm, st, x, cs, _, rfl, (ho6.upd hu7 (ho6.away' (by omega))).sq, hm.1, by omega, hm.2.2.2⟩
theorem sDrawSameMethod_ok (v : Value) (code : List UInt8) (hl : code.length ≤ 1048576) (w : World) (h : Sq fU 1 w v code) : Fn 69 [v] w (fun r w' => ∃ nm st x cs nm' x' cs', r = .tuple ⟨[mV nm st x, mV nm' st x']⟩ ∧ Sq fS 1 w' x cs ∧ Sq fS 1 w' x' cs' ∧ cs.length ≤ 61 ∧ cs'.length ≤ 61) := by
  (refine callsV_of mix Try.func69 c_sDrawSameMethod ?_; simp only [↓vsd, vsn, gW, qd, qv, ev, pick, argE, zipE, ne_eq, eq_self, forall_const, implies_true, if_true, if_false, reduceIte, reduceCtorEq, Nat.reduceEqDiff, Nat.reduceAdd, Nat.reduceLT, ↓us_sDrawSameMethod, r_sDrawSameMethod])
  refine m_al ?_
  rintro b0 w0 hb0 hblk0 hx0 hs0
  have h0 := h.ext hx0
  simp only [↓vsd, vsn, gW, qd, qv, ev, pick, argE, zipE, ne_eq, eq_self, forall_const, implies_true, if_true, if_false, reduceIte, reduceCtorEq, Nat.reduceEqDiff, Nat.reduceAdd, Nat.reduceLT, ↓us_sDrawSameMethod, r_sDrawSameMethod, h0.facts]
  refine m_al ?_
  rintro b00 w00 hb00 hblk00 hx00 hs00
  have h00 := h0.ext hx00
  simp only [↓vsd, vsn, gW, qd, qv, ev, pick, argE, zipE, ne_eq, eq_self, forall_const, implies_true, if_true, if_false, reduceIte, reduceCtorEq, Nat.reduceEqDiff, Nat.reduceAdd, Nat.reduceLT, ↓us_sDrawSameMethod, r_sDrawSameMethod, h00.facts]
  refine m_al ?_
  rintro b w1 hb hblk hx1 hs1
  have hc := Cur.new h00 hl hb hblk hx1
  simp only [↓vsd, vsn, gW, qd, qv, ev, pick, argE, zipE, ne_eq, eq_self, forall_const, implies_true, if_true, if_false, reduceIte, reduceCtorEq, Nat.reduceEqDiff, Nat.reduceAdd, Nat.reduceLT, ↓us_sDrawSameMethod, r_sDrawSameMethod]
  refine m_callw (.inl rfl) (sl1Cur_anyMethod_ok w00 b _ w1 (by omega) hc) ?_
  rintro _ w2 ⟨hc2, hg2, nm, st, x, cs, rfl, ho2, hm⟩
  have hb02 := ((hblk0.ext hx00).ext hx1).same (hg2.block b0 ((hblk0.ext hx00).ext hx1).lt (fun e => by have := Option.some.inj e; omega))
  have hb002 := (hblk00.ext hx1).same (hg2.block b00 (hblk00.ext hx1).lt (fun e => by have := Option.some.inj e; omega))
  simp only [↓vsd, vsn, gW, qd, qv, ev, pick, argE, zipE, ne_eq, eq_self, forall_const, implies_true, if_true, if_false, reduceIte, reduceCtorEq, Nat.reduceEqDiff, Nat.reduceAdd, Nat.reduceLT, ↓us_sDrawSameMethod, r_sDrawSameMethod]
  refine m_al ?_
  rintro b3 w3 hb3 hblk3 hx3 hs3
  simp only [↓vsd, vsn, gW, qd, qv, ev, pick, argE, zipE, ne_eq, eq_self, forall_const, implies_true, if_true, if_false, reduceIte, reduceCtorEq, Nat.reduceEqDiff, Nat.reduceAdd, Nat.reduceLT, ↓us_sDrawSameMethod, r_sDrawSameMethod]
  refine m_st hblk3 rfl (Nat.le_refl 3) (fM_one nm st x ho2.sq.one') ?_
  rintro w4 hblk4 hu4
  have h4 : Blk w4 b3 (fM nm st x) 26 := hblk4
  have hlt2 := hc2.lt
  have hb04 := hu4.blk (hb02.ext hx3) (by have := hb02.lt; omega)
  have hb004 := hu4.blk (hb002.ext hx3) (by have := hb002.lt; omega)
  have ho4 := (ho2.ext hx3).upd hu4 (ho2.away (by omega))
  have hg24 : w2.grownBy w4 (some b3) := grown_trans (grown_ext _ hx3) hu4.grown
  have hc4 := hc2.keep hg24 (fun c hc => by have := Option.some.inj hc; omega)
  simp only [↓vsd, vsn, gW, qd, qv, ev, pick, argE, zipE, ne_eq, eq_self, forall_const, implies_true, if_true, if_false, reduceIte, reduceCtorEq, Nat.reduceEqDiff, Nat.reduceAdd, Nat.reduceLT, ↓us_sDrawSameMethod, r_sDrawSameMethod, h4.facts, fMg]
  have hcl := hm.2.2.1
  refine m_call (sl4Own_ok nm st x cs (by omega) _ ho4.sq) ?_
  rintro _ w5 hx5 ⟨y, rfl, ho5⟩
  have hx4b := hc4.base
  simp only [↓vsd, vsn, gW, qd, qv, ev, pick, argE, zipE, ne_eq, eq_self, forall_const, implies_true, if_true, if_false, reduceIte, reduceCtorEq, Nat.reduceEqDiff, Nat.reduceAdd, Nat.reduceLT, ↓us_sDrawSameMethod, r_sDrawSameMethod]
  refine m_al ?_
  rintro b6 w6 hb6 hblk6 hx6 hs6
  simp only [↓vsd, vsn, gW, qd, qv, ev, pick, argE, zipE, ne_eq, eq_self, forall_const, implies_true, if_true, if_false, reduceIte, reduceCtorEq, Nat.reduceEqDiff, Nat.reduceAdd, Nat.reduceLT, ↓us_sDrawSameMethod, r_sDrawSameMethod]
  refine m_st hblk6 rfl (Nat.le_refl 3) (fM_one nm st y ho5.sq.one') ?_
  rintro w7 hblk7 hu7
  have h7 : Blk w7 b6 (fM nm st y) 26 := hblk7
  have hx57 := hx5.trans hx6
  have hs57 := hx5.size
  have hb07 := hu7.blk (hb04.ext hx57) (by have := hb04.lt; omega)
  have hb007 := hu7.blk (hb004.ext hx57) (by have := hb004.lt; omega)
  have h47 := hu7.blk (h4.ext hx57) (by have := h4.lt; omega)
  have hcx7 := (ho4.ext hx57).upd hu7 (ho4.ext hx5 |>.away (by omega))
  have ho7 := (ho5.ext hx6).upd hu7 (ho5.away (by omega))
  have hc7 := (hc4.ext hx57).keep hu7.grown (fun c hc => by have := Option.some.inj hc; have := hc4.lt.2; omega)
  have hx7 : Ext w00 w7 := hc7.base
  simp only [↓vsd, vsn, gW, qd, qv, ev, pick, argE, zipE, ne_eq, eq_self, forall_const, implies_true, if_true, if_false, reduceIte, reduceCtorEq, Nat.reduceEqDiff, Nat.reduceAdd, Nat.reduceLT, ↓us_sDrawSameMethod, r_sDrawSameMethod]
  refine m_callw (by first | exact .inl rfl | exact .inr rfl) (sl1Cur_pick_ok w00 b (0 + 200) 4 (by omega) _ (by omega) (by first | exact hc7 | exact hc7.ext (dr (Ext.refl _)))) ?_
  rintro _ w8 ⟨hc8, hg8, p, rfl, hp⟩
  have hg8 : w7.grownBy w8 (some b) := by first | exact hg8 | exact gud hg8
  have hlt7 := hc7.lt
  have h8 := h7.same (hg8.block b6 h7.lt (fun e => by have := Option.some.inj e; have := hc4.lt.2; omega))
  have h48 := h47.same (hg8.block b3 h47.lt (fun e => by have := Option.some.inj e; omega))
  have hb08 := hb07.same (hg8.block b0 hb07.lt (fun e => by have := Option.some.inj e; omega))
  have hb008 := hb007.same (hg8.block b00 hb007.lt (fun e => by have := Option.some.inj e; omega))
  have hcx8 := hcx7.keep hg8 (fun c hc => by have := Option.some.inj hc; omega)
  have ho8 := ho7.keep hg8 (fun c hc => by have := Option.some.inj hc; have := hc4.lt.2; omega)
  have n1 : w4.heap.size ≤ w5.heap.size := hx5.size
  have n2 := hc4.lt.2
  have n3 := h4.lt
  have n4 := hb04.lt
  have n5 := hb004.lt
  have n6 : w1.heap.size ≤ w4.heap.size := Nat.le_trans hg2.size (Nat.le_trans hx3.size (Nat.le_of_eq hu4.size.symm))
  have n7 : w.heap.size ≤ w00.heap.size := (hx0.trans hx00).size
  have n8 : b0 < w1.heap.size := by omega
  have n9 : b00 < w1.heap.size := by omega
  have hx8 : Ext w w8 := (hx0.trans hx00).trans hc8.base
  have hxn6 : Away x b6 := fun e => by have := ho4.lt b6 e; omega
  have hyn6 : Away y b6 := fun e => by have := ho5.lt b6 e; omega
  by_cases hp0 : p = 0
  · subst hp0
    have q0 : ((0 : Nat) : Int) = 0 := rfl
    simp only [↓vsd, vsn, gW, qd, qv, ev, pick, argE, zipE, ne_eq, eq_self, forall_const, implies_true, if_true, if_false, reduceIte, reduceCtorEq, Nat.reduceEqDiff, Nat.reduceAdd, Nat.reduceLT, ↓us_sDrawSameMethod, r_sDrawSameMethod, q0]
    refine m_st (off := 0) h8 rfl (by decide : 0 + 1 ≤ 3) (fun u hu => by simp only [cells_S, List.mem_singleton] at hu; subst hu; rfl) ?_
    rintro w9 hblk9 hu9
    have hT6 : Blk w9 b6 (fM [111, 116, 104, 101, 114] st y) 26 := hblk9
    have hT3 := hu9.blk h48 (by omega)
    have hT0 := hu9.blk hb08 (by omega)
    have hT00 := hu9.blk hb008 (by omega)
    have hxT := hcx8.upd hu9 hxn6
    have hyT := ho8.upd hu9 hyn6
    have hxE : Ext w w9 := hu9.below hx8 (by omega)
    obtain ⟨nmX, yX, csX, hT6, hyT, hcX⟩ : ∃ nmX yX csX, Blk w9 b6 (fM nmX st yX) 26 ∧ Own fS 1 9 w4.heap.size w9 yX csX ∧ csX.length ≤ 61 := ⟨_, _, _, hT6, hyT, by omega⟩
    simp only [↓vsd, vsn, gW, qd, qv, ev, pick, argE, zipE, ne_eq, eq_self, forall_const, implies_true, if_true, if_false, reduceIte, reduceCtorEq, Nat.reduceEqDiff, Nat.reduceAdd, Nat.reduceLT, ↓us_sDrawSameMethod, r_sDrawSameMethod, hT6.facts, hT3.facts, fMg]
    repeat' with_reducible apply And.intro
    all_goals
      refine m_st (show Blk _ b0 _ _ from hT0) rfl (Nat.le_refl 3) (fM_one nm st x hxT.sq.one') ?_
      rintro w19 hblk19 hu19
      have k9 : Blk w19 b0 (fM nm st x) 26 := hblk19
      have k6 := hu19.blk (show Blk _ b6 _ _ from hT6) (by omega)
      have hxA : Own fS 1 9 w1.heap.size w19 x cs := by first | exact hxT.upd hu19 (hxT.away' (by omega)) | exact (hxT.ext (dr (Ext.refl _))).upd hu19 (hxT.away' (by omega))
      have hyA : Own fS 1 9 w4.heap.size w19 yX csX := by first | exact hyT.upd hu19 (hyT.away' (by omega)) | exact (hyT.ext (dr (Ext.refl _))).upd hu19 (hyT.away' (by omega))
      have hxE19 : Ext w w19 := by first | exact hu19.below hxE (by omega) | exact hu19.below (dr hxE) (by omega)
      simp only [↓vsd, vsn, gW, qd, qv, ev, pick, argE, zipE, ne_eq, eq_self, forall_const, implies_true, if_true, if_false, reduceIte, reduceCtorEq, Nat.reduceEqDiff, Nat.reduceAdd, Nat.reduceLT, ↓us_sDrawSameMethod, r_sDrawSameMethod, k6.facts, hT6.facts, fMg]
      refine m_st (hu19.blk (show Blk _ b00 _ _ from hT00) (by omega)) rfl (Nat.le_refl 3) (fM_one nmX st yX hyT.sq.one') ?_
      rintro w20 hblk20 hu20
      have k00 : Blk w20 b00 (fM nmX st yX) 26 := hblk20
      have k0 := hu20.blk k9 (by omega)
      simp only [↓vsd, vsn, gW, qd, qv, ev, pick, argE, zipE, ne_eq, eq_self, forall_const, implies_true, if_true, if_false, reduceIte, reduceCtorEq, Nat.reduceEqDiff, Nat.reduceAdd, Nat.reduceLT, ↓us_sDrawSameMethod, r_sDrawSameMethod, k00.facts, k0.facts, fMg]
      exact ⟨hu20.below hxE19 (by omega), nm, st, x, cs, nmX, yX, csX, rfl, (hxA.upd hu20 (hxA.away' (by omega))).sq, (hyA.upd hu20 (hyA.away' (by omega))).sq, by omega, hcX⟩
  · have q0 : ¬ (p : Int) = 0 := by omega
    by_cases hp1 : p = 1
    · subst hp1
      have q1 : ((1 : Nat) : Int) = 1 := rfl
      have q10 : ¬ (1 : Int) = 0 := by decide
      simp only [↓vsd, vsn, gW, qd, qv, ev, pick, argE, zipE, ne_eq, eq_self, forall_const, implies_true, if_true, if_false, reduceIte, reduceCtorEq, Nat.reduceEqDiff, Nat.reduceAdd, Nat.reduceLT, ↓us_sDrawSameMethod, r_sDrawSameMethod, q1, q10, h8.facts, fMg]
      refine m_bsl (one_el rfl) ?_
      rintro b9 w9 hb9 hblk9 hx9 hs9
      simp only [↓vsd, vsn, gW, qd, qv, ev, pick, argE, zipE, ne_eq, eq_self, forall_const, implies_true, if_true, if_false, reduceIte, reduceCtorEq, Nat.reduceEqDiff, Nat.reduceAdd, Nat.reduceLT, ↓us_sDrawSameMethod, r_sDrawSameMethod]
      have n10 : w4.heap.size ≤ w8.heap.size := Nat.le_trans n1 (Nat.le_trans hx6.size (Nat.le_trans (Nat.le_of_eq hu7.size.symm) hg8.size))
      refine m_app2 (ho8.ext hx9) (Sq.one fS_len hblk9 rfl) fS_one (by decide) (by rw [List.length_singleton]; omega) (by decide) (Nat.le_trans n10 hx9.size) ?_
      rintro y10 w10 ho10 hg10 hy10
      have hE10 : Ext w w10 := (ho8.ext hx9).grown (hx8.trans hx9) (by omega) hg10
      have hne : ∀ c, c < w4.heap.size ∨ c = b6 → some c ≠ y.ownBlock := fun c hc e => by
        rcases hc with hc | hc
        · have := (ho5.bound c e.symm).1; omega
        · rw [hc] at e; exact hyn6 e.symm
      have j6 := (h8.ext hx9).same (hg10.block b6 (h8.ext hx9).lt (hne b6 (.inr rfl)))
      have j3 := (h48.ext hx9).same (hg10.block b3 (h48.ext hx9).lt (hne b3 (.inl (by omega))))
      have j0 := (hb08.ext hx9).same (hg10.block b0 (hb08.ext hx9).lt (hne b0 (.inl (by omega))))
      have j00 := (hb008.ext hx9).same (hg10.block b00 (hb008.ext hx9).lt (hne b00 (.inl (by omega))))
      have jx := (hcx8.ext hx9).off hg10 (fun c hc => fun e => by have := ho4.lt c e; have := (ho5.bound c hc).1; omega)
      simp only [↓vsd, vsn, gW, qd, qv, ev, pick, argE, zipE, ne_eq, eq_self, forall_const, implies_true, if_true, if_false, reduceIte, reduceCtorEq, Nat.reduceEqDiff, Nat.reduceAdd, Nat.reduceLT, ↓us_sDrawSameMethod, r_sDrawSameMethod]
      have hc10 : y10.cells = #[y10] := of_eq_true ho10.sq.oneC
      refine m_st (off := 2) j6 (by rw [hc10]; rfl) (by decide : 2 + 1 ≤ 3) (fun u hu => by
        rw [hc10] at hu
        simp only [List.mem_singleton] at hu
        rw [hu]; exact ho10.sq.one') ?_
      rintro w11 hblk11 hu11
      have hT6 : Blk w11 b6 (fM nm st y10) 26 := by
        have : spl (fM nm st y) 2 y10.cells.toList = fM nm st y10 := by rw [hc10]; rfl
        rw [← this]; exact hblk11
      have hT3 := hu11.blk j3 (by omega)
      have hT0 := hu11.blk j0 (by omega)
      have hT00 := hu11.blk j00 (by omega)
      have hxT := jx.upd hu11 hxn6
      have hyT := ho10.upd hu11 (fun e => by
        have h1 := (ho10.bound b6 e)
        rcases hy10 b6 e with h2 | h2
        · exact hyn6 h2
        · have := (h8.ext hx9).lt; omega)
      have hxE : Ext w w11 := hu11.below hE10 (by omega)
      obtain ⟨nmX, yX, csX, hT6, hyT, hcX⟩ : ∃ nmX yX csX, Blk w11 b6 (fM nmX st yX) 26 ∧ Own fS 1 9 w4.heap.size w11 yX csX ∧ csX.length ≤ 61 := ⟨_, _, _, hT6, hyT, by rw [List.length_append, List.length_singleton]; omega⟩
      simp only [↓vsd, vsn, gW, qd, qv, ev, pick, argE, zipE, ne_eq, eq_self, forall_const, implies_true, if_true, if_false, reduceIte, reduceCtorEq, Nat.reduceEqDiff, Nat.reduceAdd, Nat.reduceLT, ↓us_sDrawSameMethod, r_sDrawSameMethod, hT6.facts, hT3.facts, fMg]
      repeat' with_reducible apply And.intro
      all_goals
        refine m_st (show Blk _ b0 _ _ from hT0) rfl (Nat.le_refl 3) (fM_one nm st x hxT.sq.one') ?_
        rintro w19 hblk19 hu19
        have k9 : Blk w19 b0 (fM nm st x) 26 := hblk19
        have k6 := hu19.blk (show Blk _ b6 _ _ from hT6) (by omega)
        have hxA : Own fS 1 9 w1.heap.size w19 x cs := by first | exact hxT.upd hu19 (hxT.away' (by omega)) | exact (hxT.ext (dr (Ext.refl _))).upd hu19 (hxT.away' (by omega))
        have hyA : Own fS 1 9 w4.heap.size w19 yX csX := by first | exact hyT.upd hu19 (hyT.away' (by omega)) | exact (hyT.ext (dr (Ext.refl _))).upd hu19 (hyT.away' (by omega))
        have hxE19 : Ext w w19 := by first | exact hu19.below hxE (by omega) | exact hu19.below (dr hxE) (by omega)
        simp only [↓vsd, vsn, gW, qd, qv, ev, pick, argE, zipE, ne_eq, eq_self, forall_const, implies_true, if_true, if_false, reduceIte, reduceCtorEq, Nat.reduceEqDiff, Nat.reduceAdd, Nat.reduceLT, ↓us_sDrawSameMethod, r_sDrawSameMethod, k6.facts, hT6.facts, fMg]
        refine m_st (hu19.blk (show Blk _ b00 _ _ from hT00) (by omega)) rfl (Nat.le_refl 3) (fM_one nmX st yX hyT.sq.one') ?_
        rintro w20 hblk20 hu20
        have k00 : Blk w20 b00 (fM nmX st yX) 26 := hblk20
        have k0 := hu20.blk k9 (by omega)
        simp only [↓vsd, vsn, gW, qd, qv, ev, pick, argE, zipE, ne_eq, eq_self, forall_const, implies_true, if_true, if_false, reduceIte, reduceCtorEq, Nat.reduceEqDiff, Nat.reduceAdd, Nat.reduceLT, ↓us_sDrawSameMethod, r_sDrawSameMethod, k00.facts, k0.facts, fMg]
        exact ⟨hu20.below hxE19 (by omega), nm, st, x, cs, nmX, yX, csX, rfl, (hxA.upd hu20 (hxA.away' (by omega))).sq, (hyA.upd hu20 (hyA.away' (by omega))).sq, by omega, hcX⟩
    · have q1 : ¬ (p : Int) = 1 := by omega
      have hT6 := h8
      have hT3 := h48
      have hT0 := hb08
      have hT00 := hb008
      have hxT := hcx8
      have hyT := ho8
      have hxE := hx8
      simp only [↓vsd, vsn, gW, qd, qv, ev, pick, argE, zipE, ne_eq, eq_self, forall_const, implies_true, if_true, if_false, reduceIte, reduceCtorEq, Nat.reduceEqDiff, Nat.reduceAdd, Nat.reduceLT, ↓us_sDrawSameMethod, r_sDrawSameMethod, q0, q1]
      obtain ⟨nmX, yX, csX, hT6, hyT, hcX⟩ : ∃ nmX yX csX, Blk w8 b6 (fM nmX st yX) 26 ∧ Own fS 1 9 w4.heap.size w8 yX csX ∧ csX.length ≤ 61 := ⟨_, _, _, hT6, hyT, by omega⟩
      simp only [↓vsd, vsn, gW, qd, qv, ev, pick, argE, zipE, ne_eq, eq_self, forall_const, implies_true, if_true, if_false, reduceIte, reduceCtorEq, Nat.reduceEqDiff, Nat.reduceAdd, Nat.reduceLT, ↓us_sDrawSameMethod, r_sDrawSameMethod, hT6.facts, hT3.facts, fMg]
      repeat' with_reducible apply And.intro
      all_goals
        refine m_st (show Blk _ b0 _ _ from hT0) rfl (Nat.le_refl 3) (fM_one nm st x hxT.sq.one') ?_
        rintro w19 hblk19 hu19
        have k9 : Blk w19 b0 (fM nm st x) 26 := hblk19
        have k6 := hu19.blk (show Blk _ b6 _ _ from hT6) (by omega)
        have hxA : Own fS 1 9 w1.heap.size w19 x cs := by first | exact hxT.upd hu19 (hxT.away' (by omega)) | exact (hxT.ext (dr (Ext.refl _))).upd hu19 (hxT.away' (by omega))
        have hyA : Own fS 1 9 w4.heap.size w19 yX csX := by first | exact hyT.upd hu19 (hyT.away' (by omega)) | exact (hyT.ext (dr (Ext.refl _))).upd hu19 (hyT.away' (by omega))
        have hxE19 : Ext w w19 := by first | exact hu19.below hxE (by omega) | exact hu19.below (dr hxE) (by omega)
        simp only [↓vsd, vsn, gW, qd, qv, ev, pick, argE, zipE, ne_eq, eq_self, forall_const, implies_true, if_true, if_false, reduceIte, reduceCtorEq, Nat.reduceEqDiff, Nat.reduceAdd, Nat.reduceLT, ↓us_sDrawSameMethod, r_sDrawSameMethod, k6.facts, hT6.facts, fMg]
        refine m_st (hu19.blk (show Blk _ b00 _ _ from hT00) (by omega)) rfl (Nat.le_refl 3) (fM_one nmX st yX hyT.sq.one') ?_
        rintro w20 hblk20 hu20
        have k00 : Blk w20 b00 (fM nmX st yX) 26 := hblk20
        have k0 := hu20.blk k9 (by omega)
        simp only [↓vsd, vsn, gW, qd, qv, ev, pick, argE, zipE, ne_eq, eq_self, forall_const, implies_true, if_true, if_false, reduceIte, reduceCtorEq, Nat.reduceEqDiff, Nat.reduceAdd, Nat.reduceLT, ↓us_sDrawSameMethod, r_sDrawSameMethod, k00.facts, k0.facts, fMg]
        exact ⟨hu20.below hxE19 (by omega), nm, st, x, cs, nmX, yX, csX, rfl, (hxA.upd hu20 (hxA.away' (by omega))).sq, (hyA.upd hu20 (hyA.away' (by omega))).sq, by omega, hcX⟩
def tmN (nm : Bs) (st : Int) (cs : List Bs) : Bs := if IsMethod nm st cs then nm else []
def tmS (nm : Bs) (st : Int) (cs : List Bs) : Int := if IsMethod nm st cs then st else 0
def tmC (nm : Bs) (st : Int) (cs : List Bs) : List Bs := if IsMethod nm st cs then cs.reverse else []
theorem iTurnMethod_t (nm : List UInt8) (st : Int) (v : Value) (cs : List (List UInt8)) (hnm : nm.length ≤ 1048576) (hs : ∀ c ∈ cs, c.length ≤ 1048576) (hl : cs.length ≤ 1000000) (w : World) (h : Sq fS 1 w v cs) : Fn 65 [mV nm st v] w (fun r w' => ∃ x, r = .tuple ⟨[mV (tmN nm st cs) (tmS nm st cs) x, .bool (decide (IsMethod nm st cs))]⟩ ∧ Sq fS 1 w' x (tmC nm st cs)) := by
  by_cases hm : IsMethod nm st cs
  · refine (iTurnMethod_ok nm st v cs hm hnm hs (by omega) w h).mono fun r w' ⟨x, e, ho⟩ => ⟨x, ?_, ?_⟩
    · rw [e, tmN, tmS, if_pos hm, if_pos hm, decide_eq_true hm]
    · rw [tmC, if_pos hm]; exact ho.sq
  · refine (iTurnMethod_no nm st v cs hm hnm hs (by omega) w h).mono fun r w' e => ⟨.slice none 0 0, ?_, ?_⟩
    · rw [e, noM, tmN, tmS, if_neg hm, if_neg hm, decide_eq_false hm]
    · rw [tmC, if_neg hm]; exact Sq.nil fS_len
theorem sTurnMethod_t (nm : List UInt8) (st : Int) (v : Value) (cs : List (List UInt8)) (hnm : nm.length ≤ 1048576) (hs : ∀ c ∈ cs, c.length ≤ 1048576) (hl : cs.length ≤ 1000000) (w : World) (h : Sq fS 1 w v cs) : Fn 66 [mV nm st v] w (fun r w' => ∃ x, r = .tuple ⟨[mV (tmN nm st cs) (tmS nm st cs) x, .bool (decide (IsMethod nm st cs))]⟩ ∧ Sq fS 1 w' x (tmC nm st cs)) := by
  refine (sTurnMethod_all nm st v cs hnm hs hl w h).mono fun r w' ⟨h1, h2⟩ => ?_
  by_cases hm : IsMethod nm st cs
  · obtain ⟨x, e, ho⟩ := h1 hm
    refine ⟨x, ?_, ?_⟩
    · rw [e, tmN, tmS, if_pos hm, if_pos hm, decide_eq_true hm]
    · rw [tmC, if_pos hm]; exact ho.sq
  · refine ⟨.slice none 0 0, ?_, ?_⟩
    · rw [h2 hm, noM, tmN, tmS, if_neg hm, if_neg hm, decide_eq_false hm]
    · rw [tmC, if_neg hm]; exact Sq.nil fS_len
theorem tmC_len (nm : Bs) (st : Int) (cs : List Bs) : (tmC nm st cs).length ≤ cs.length := by
  unfold tmC; split
  · rw [List.length_reverse]; exact Nat.le_refl _
  · simp
set_option maxHeartbeats 4000000 in
theorem lFnStarts_ok (v u : Value) (code more : List UInt8) (hcl : code.length ≤ 9223372036854775807) (hml : more.length ≤ 9223372036854775807) (w : World) (h : Sq fU 1 w v code) (h' : Sq fU 1 w u more) : Fn 6 [v, u] w (fun r _ => r = .bool true) := by
  (refine callsV_of mix Try.func6 c_lFnStarts ?_; simp only [↓vsd, vsn, gW, qd, qv, ev, pick, argE, zipE, ne_eq, eq_self, forall_const, implies_true, if_true, if_false, reduceIte, reduceCtorEq, Nat.reduceEqDiff, Nat.reduceAdd, Nat.reduceLT, ↓us_lFnStarts, r_lFnStarts])
  refine m_call (lbig_ok v u code more hcl hml _ h h') ?_
  rintro _ w0 hx0 rfl
  simp only [↓vsd, vsn, gW, qd, qv, ev, pick, argE, zipE, ne_eq, eq_self, forall_const, implies_true, if_true, if_false, reduceIte, reduceCtorEq, Nat.reduceEqDiff, Nat.reduceAdd, Nat.reduceLT, ↓us_lFnStarts, r_lFnStarts]
  refine ⟨fun _ => hx0, fun hsm => ?_⟩
  have hlen : code.length ≤ 1048576 ∧ more.length ≤ 1048576 := by omega
  refine m_call (sDrawStartAt_ok v code hlen.1 _ (h.ext hx0)) ?_
  rintro _ w1 hx1 ⟨nm, st, x, cs, k, rfl, hq1, hmb⟩
  have hx01 := hx0.trans hx1
  have hnm : nm.length ≤ 1048576 := by have := hmb.1; omega
  have hcs8 : ∀ c ∈ cs, c.length ≤ 1048576 := fun c hc => by have := hmb.2.2 c hc; omega
  have hcsl := hmb.2.1
  simp only [↓vsd, vsn, gW, qd, qv, ev, pick, argE, zipE, ne_eq, eq_self, forall_const, implies_true, if_true, if_false, reduceIte, reduceCtorEq, Nat.reduceEqDiff, Nat.reduceAdd, Nat.reduceLT, ↓us_lFnStarts, r_lFnStarts]
  refine m_al ?_
  rintro bm w2 hbm hblk2 hx2 hs2
  simp only [↓vsd, vsn, gW, qd, qv, ev, pick, argE, zipE, ne_eq, eq_self, forall_const, implies_true, if_true, if_false, reduceIte, reduceCtorEq, Nat.reduceEqDiff, Nat.reduceAdd, Nat.reduceLT, ↓us_lFnStarts, r_lFnStarts]
  refine m_st hblk2 rfl (Nat.le_refl 3) (fM_one nm st x hq1.one') ?_
  rintro w3 hblk3 hu3
  have hM3 : Blk w3 bm (fM nm st x) 26 := hblk3
  have hx13 : Ext w1 w3 := hu3.below hx2 (by omega)
  have hq3 := hq1.ext hx13
  simp only [↓vsd, vsn, gW, qd, qv, ev, pick, argE, zipE, ne_eq, eq_self, forall_const, implies_true, if_true, if_false, reduceIte, reduceCtorEq, Nat.reduceEqDiff, Nat.reduceAdd, Nat.reduceLT, ↓us_lFnStarts, r_lFnStarts, hM3.facts, fMg]
  refine m_call (iStartAt_ok nm st x cs k hnm hcs8 (by omega) _ hq3) ?_
  rintro r4 w4 hx4 ⟨hy4, hn4⟩
  have hM4 := hM3.ext hx4
  have hq4 := hq3.ext hx4
  by_cases hok : StaOk nm st cs k
  · obtain ⟨s4, rfl, ho4⟩ := hy4 hok
    clear hy4 hn4
    simp only [↓vsd, vsn, gW, qd, qv, ev, pick, argE, zipE, ne_eq, eq_self, forall_const, implies_true, if_true, if_false, reduceIte, reduceCtorEq, Nat.reduceEqDiff, Nat.reduceAdd, Nat.reduceLT, ↓us_lFnStarts, r_lFnStarts]
    refine m_al ?_
    rintro bs w5 hbs hblk5 hx5 hs5
    simp only [↓vsd, vsn, gW, qd, qv, ev, pick, argE, zipE, ne_eq, eq_self, forall_const, implies_true, if_true, if_false, reduceIte, reduceCtorEq, Nat.reduceEqDiff, Nat.reduceAdd, Nat.reduceLT, ↓us_lFnStarts, r_lFnStarts]
    refine m_st hblk5 rfl (Nat.le_refl 3) (fM_one nm st s4 ho4.sq.one') ?_
    rintro w6 hblk6 hu6
    have hS6 : Blk w6 bs (fM nm st s4) 26 := hblk6
    have hx46 : Ext w4 w6 := hu6.below hx5 (by omega)
    have hM6 := hM4.ext hx46
    have hq6 := hq4.ext hx46
    have ho6 := ho4.ext hx46
    simp only [↓vsd, vsn, gW, qd, qv, ev, pick, argE, zipE, ne_eq, eq_self, forall_const, implies_true, if_true, if_false, reduceIte, reduceCtorEq, Nat.reduceEqDiff, Nat.reduceAdd, Nat.reduceLT, ↓us_lFnStarts, r_lFnStarts, hM6.facts, fMg]
    refine m_call (sStartAt_ok nm st x cs k hnm hcs8 (by omega) _ hq6) ?_
    rintro r7 w7 hx7 ⟨hy7, hn7⟩
    obtain ⟨s7, rfl, ho7⟩ := hy7 hok
    clear hy7 hn7
    have hx17 := ((hx13.trans hx4).trans hx46).trans hx7
    have hM7 := hM6.ext hx7
    have hS7 := hS6.ext hx7
    have hq7 := hq6.ext hx7
    have ho67 := ho6.ext hx7
    simp only [↓vsd, vsn, gW, qd, qv, ev, pick, argE, zipE, ne_eq, eq_self, forall_const, implies_true, if_true, if_false, reduceIte, reduceCtorEq, Nat.reduceEqDiff, Nat.reduceAdd, Nat.reduceLT, ↓us_lFnStarts, r_lFnStarts, hS7.facts, hM7.facts, fMg]
    refine m_al ?_
    rintro bw w8 hbw hblk8 hx8 hs8
    simp only [↓vsd, vsn, gW, qd, qv, ev, pick, argE, zipE, ne_eq, eq_self, forall_const, implies_true, if_true, if_false, reduceIte, reduceCtorEq, Nat.reduceEqDiff, Nat.reduceAdd, Nat.reduceLT, ↓us_lFnStarts, r_lFnStarts]
    refine m_st hblk8 rfl (Nat.le_refl 3) (fM_one nm st s7 ho7.sq.one') ?_
    rintro w9 hblk9 hu9
    have hW9 : Blk w9 bw (fM nm st s7) 26 := hblk9
    have hx79 : Ext w7 w9 := hu9.below hx8 (by omega)
    have hS9 := hS7.ext hx79
    have hx19 := hx17.trans hx79
    have hM9 := hM7.ext hx79
    have hq9 := hq7.ext hx79
    have ho49 := ho67.ext hx79
    have ho79 := ho7.ext hx79
    have hrl : (rotM cs k.toNat).length ≤ 61 := by rw [rotM, List.length_append, List.length_drop, List.length_take]; omega
    simp only [↓vsd, vsn, gW, qd, qv, ev, pick, argE, zipE, ne_eq, eq_self, forall_const, implies_true, if_true, if_false, reduceIte, reduceCtorEq, Nat.reduceEqDiff, Nat.reduceAdd, Nat.reduceLT, ↓us_lFnStarts, r_lFnStarts, hS9.facts, hW9.facts, fMg]
    refine m_call (sSameMethod_ok nm nm st st s4 s7 (rotM cs k.toNat) (rotM cs k.toNat) (by omega) _ (by first | exact ho49.sq | exact ho49.sq.ext (dr (Ext.refl _))) (by first | exact ho79.sq | exact ho79.sq.ext (dr (Ext.refl _)))) ?_
    rintro _ w10 hx10 rfl
    have hx10 : Ext w9 w10 := by first | exact hx10 | exact ud hx10
    have hM10 := hM9.ext hx10
    have hS10 := hS9.ext hx10
    have hq10 := hq9.ext hx10
    have ho10 := ho49.ext hx10
    have hx110 := hx19.trans hx10
    obtain ⟨hm, hk0, hkl⟩ := hok
    obtain ⟨kn, rfl⟩ : ∃ n : Nat, k = n := ⟨k.toNat, by omega⟩
    obtain ⟨n, rfl⟩ : ∃ n : Nat, st = n := ⟨st.toNat, by have := hm.2.1; omega⟩
    rw [Int.toNat_natCast] at *
    have h38 : 3 ≤ n ∧ n ≤ 8 := by have := hm.2.1; omega
    simp only [↓vsd, vsn, gW, qd, qv, ev, pick, argE, zipE, ne_eq, eq_self, forall_const, implies_true, if_true, if_false, reduceIte, reduceCtorEq, Nat.reduceEqDiff, Nat.reduceAdd, Nat.reduceLT, ↓us_lFnStarts, r_lFnStarts, hM10.facts, fMg]
    have hx010 := hx01.trans hx110
    have hmr : IsMethod nm n (rotM cs kn) := ⟨hm.1, hm.2.1, by rw [rotM, List.length_append, List.length_drop, List.length_take]; have := hm.2.2.1; omega, fun c hc => by
      rcases List.mem_append.1 hc with h1 | h1
      · exact hm.2.2.2 c (List.mem_of_mem_drop h1)
      · exact hm.2.2.2 c (List.mem_of_mem_take h1)⟩
    have hcr8 : ∀ c ∈ rotM cs kn, c.length ≤ 1048576 := fun c hc => by have := (hmr.2.2.2 c hc).len; omega
    have hU := under_row h38 cs
    have hR := under_row h38 (cs.take kn)
    have hG := head_rot h38 cs kn
    have hGr := under_row h38 (rotM cs kn)
    obtain ⟨ko, hO⟩ := ord_exists hU.1
    have hOg : IsOrd (underL (roundsL n) (rotM cs kn)) ko := by rw [hG]; exact ord_conj hR.1 hU.1 (by rw [hR.2, hU.2]) hO
    refine m_call (iLeadHead_ok nm n x cs hnm hcs8 (by omega) _ hq10) ?_
    rintro r11 w11 hx11 hr11
    rw [headV, if_pos hm, Int.toNat_natCast] at hr11
    subst hr11
    have hS11 := hS10.ext hx11
    simp only [↓vsd, vsn, gW, qd, qv, ev, pick, argE, zipE, ne_eq, eq_self, forall_const, implies_true, if_true, if_false, reduceIte, reduceCtorEq, Nat.reduceEqDiff, Nat.reduceAdd, Nat.reduceLT, ↓us_lFnStarts, r_lFnStarts, hS11.facts, fMg]
    refine m_call (iLeadHead_ok nm n s4 (rotM cs kn) hnm hcr8 (by omega) _ (ho10.sq.ext hx11)) ?_
    rintro r12 w12 hx12 hr12
    rw [headV, if_pos hmr, Int.toNat_natCast] at hr12
    subst hr12
    have hx112 := hx11.trans hx12
    have hM12 := hM10.ext hx112
    simp only [↓vsd, vsn, gW, qd, qv, ev, pick, argE, zipE, ne_eq, eq_self, forall_const, implies_true, if_true, if_false, reduceIte, reduceCtorEq, Nat.reduceEqDiff, Nat.reduceAdd, Nat.reduceLT, ↓us_lFnStarts, r_lFnStarts, hM12.facts, fMg]
    refine m_call (iRoundsOf_ok (n : Nat) _) ?_
    rintro r13 w13 hx13' hr13
    rw [roundsV, if_pos ⟨by omega, by omega⟩, Int.toNat_natCast] at hr13
    subst hr13
    have hx113 := hx112.trans hx13'
    have hM13 := hM12.ext hx13'
    simp only [↓vsd, vsn, gW, qd, qv, ev, pick, argE, zipE, ne_eq, eq_self, forall_const, implies_true, if_true, if_false, reduceIte, reduceCtorEq, Nat.reduceEqDiff, Nat.reduceAdd, Nat.reduceLT, ↓us_lFnStarts, r_lFnStarts, hM13.facts, fMg]
    refine m_call (iLeadRows_ok nm n x cs (roundsL n) hnm hcs8 (by omega) _ (hq10.ext hx113)) ?_
    rintro r14 w14 hx14 ⟨y14, rfl, ho14⟩
    have hlok : LeadOk nm n cs (roundsL n) := ⟨hm, roundsL_row n h38, by rw [roundsL_len]⟩
    have hlD := decide_eq_true hlok
    have hlv : leadV nm n cs (roundsL n) = rowsU (roundsL n) cs cs.length := by rw [leadV, if_pos hlok]
    rw [hlv] at ho14
    have hrul : (rowsU (roundsL n) cs cs.length).length = cs.length := rowsU_len _ _ _
    have hru := rowsU_get (roundsL n) cs cs.length kn (by omega)
    have a14 := ho14.sq.at1 [] (i := kn) (by omega)
    rw [hru] at a14
    generalize hLL : rowsU (roundsL n) cs cs.length = LL at *
    generalize underL (roundsL n) (cs.take kn) = R at *
    generalize hHH : underL (roundsL n) cs = H at *
    generalize hGG : underL (roundsL n) (rotM cs kn) = GG at *
    have hk0I : ¬ (kn : Int) < 0 := by omega
    have hklI : ¬ (LL.length : Int) ≤ (kn : Int) := by omega
    simp only [↓vsd, vsn, gW, qd, qv, ev, pick, argE, zipE, ne_eq, eq_self, forall_const, implies_true, if_true, if_false, reduceIte, reduceCtorEq, Nat.reduceEqDiff, Nat.reduceAdd, Nat.reduceLT, ↓us_lFnStarts, r_lFnStarts, hlD, ho14.sq.facts, hk0I, hklI, a14]
    refine ⟨by omega, m_call (iTurnRow_ok R _) ?_⟩
    rintro r15 w15 hx15 hr15
    rw [turnRV, if_pos hR.1] at hr15
    subst hr15
    have ho15 := ho14.sq.ext hx15
    have a15 := ho15.at1 [] (i := kn) (by omega)
    rw [hru] at a15
    simp only [↓vsd, vsn, gW, qd, qv, ev, pick, argE, zipE, ne_eq, eq_self, forall_const, implies_true, if_true, if_false, reduceIte, reduceCtorEq, Nat.reduceEqDiff, Nat.reduceAdd, Nat.reduceLT, ↓us_lFnStarts, r_lFnStarts, ho15.facts, a15]
    refine ⟨by omega, m_call (iTimes_ok H R _) ?_⟩
    rintro r16 w16 hx16 hr16
    have hHR : H.length = R.length := by rw [hU.2, hR.2]
    rw [timesV, if_pos ⟨hU.1, hR.1, hHR⟩] at hr16
    subst hr16
    have hXr := timesL_row hU.1 hR.1 hHR
    have hXl : (timesL H R).length = R.length := timesL_len _ _
    simp only [↓vsd, vsn, gW, qd, qv, ev, pick, argE, zipE, ne_eq, eq_self, forall_const, implies_true, if_true, if_false, reduceIte, reduceCtorEq, Nat.reduceEqDiff, Nat.reduceAdd, Nat.reduceLT, ↓us_lFnStarts, r_lFnStarts]
    refine m_call (iTimes_ok (turnL R) (timesL H R) _) ?_
    rintro r17 w17 hx17' hr17
    rw [timesV, if_pos ⟨turnL_row hR.1, hXr, by rw [turnL_len, hXl]⟩, ← hG] at hr17
    subst hr17
    have hx1417 := (hx15.trans hx16).trans hx17'
    have hx1017 := (hx113.trans hx14).trans hx1417
    have hM17 := hM10.ext hx1017
    simp only [↓vsd, vsn, gW, qd, qv, ev, pick, argE, zipE, ne_eq, eq_self, forall_const, implies_true, if_true, if_false, reduceIte, reduceCtorEq, Nat.reduceEqDiff, Nat.reduceAdd, Nat.reduceLT, ↓us_lFnStarts, r_lFnStarts, hM17.facts, fMg]
    refine m_call (iLeadsIn_ok nm n x cs ko hnm hcs8 (by omega) (fun _ => by show IsOrd (underL (roundsL (n : Int).toNat) cs) ko; rw [Int.toNat_natCast, hHH]; exact hO) _ (hq10.ext hx1017)) ?_
    rintro _ w18 hx18 rfl
    rw [liV, if_pos hm, decide_eq_true hm]
    have hS18 := (hS10.ext hx1017).ext hx18
    simp only [↓vsd, vsn, gW, qd, qv, ev, pick, argE, zipE, ne_eq, eq_self, forall_const, implies_true, if_true, if_false, reduceIte, reduceCtorEq, Nat.reduceEqDiff, Nat.reduceAdd, Nat.reduceLT, ↓us_lFnStarts, r_lFnStarts, hS18.facts, fMg]
    refine m_call (iLeadsIn_ok nm n s4 (rotM cs kn) ko hnm hcr8 (by omega) (fun _ => by show IsOrd (underL (roundsL (n : Int).toNat) (rotM cs kn)) ko; rw [Int.toNat_natCast, hGG]; exact hOg) _ ((ho10.sq.ext hx1017).ext hx18)) ?_
    rintro _ w19 hx19' rfl
    rw [liV, if_pos hmr, decide_eq_true hmr]
    have hxL := ((hx010.trans hx1017).trans hx18).trans hx19'
    simp only [↓vsd, vsn, gW, qd, qv, ev, pick, argE, zipE, ne_eq, eq_self, forall_const, implies_true, if_true, if_false, reduceIte, reduceCtorEq, Nat.reduceEqDiff, Nat.reduceAdd, Nat.reduceLT, ↓us_lFnStarts, r_lFnStarts]
    refine m_call (sDrawTurnMethod_ok u more hlen.2 _ (h'.ext hxL)) ?_
    rintro _ wa hxa ⟨nma, sta, xa, csa, rfl, hoa, hma⟩
    have hxLa := hxL.trans hxa
    have hnma : nma.length ≤ 1048576 := by have := hma.1; omega
    have hca8 : ∀ c ∈ csa, c.length ≤ 1048576 := fun c hc => by have := hma.2.2.2 c hc; omega
    have hcal := hma.2.2.1
    simp only [↓vsd, vsn, gW, qd, qv, ev, pick, argE, zipE, ne_eq, eq_self, forall_const, implies_true, if_true, if_false, reduceIte, reduceCtorEq, Nat.reduceEqDiff, Nat.reduceAdd, Nat.reduceLT, ↓us_lFnStarts, r_lFnStarts]
    refine m_al ?_
    rintro ba wb hba hblka hxb hsb
    simp only [↓vsd, vsn, gW, qd, qv, ev, pick, argE, zipE, ne_eq, eq_self, forall_const, implies_true, if_true, if_false, reduceIte, reduceCtorEq, Nat.reduceEqDiff, Nat.reduceAdd, Nat.reduceLT, ↓us_lFnStarts, r_lFnStarts]
    refine m_st hblka rfl (Nat.le_refl 3) (fM_one nma sta xa hoa.sq.one') ?_
    rintro wc hblkc huc
    have hAc : Blk wc ba (fM nma sta xa) 26 := hblkc
    have hxac : Ext wa wc := huc.below hxb (by omega)
    have hqc := hoa.sq.ext hxac
    have hxLc := hxLa.trans hxac
    simp only [↓vsd, vsn, gW, qd, qv, ev, pick, argE, zipE, ne_eq, eq_self, forall_const, implies_true, if_true, if_false, reduceIte, reduceCtorEq, Nat.reduceEqDiff, Nat.reduceAdd, Nat.reduceLT, ↓us_lFnStarts, r_lFnStarts, hAc.facts, fMg]
    refine m_call (iTurnMethod_t nma sta xa csa hnma hca8 (by omega) _ hqc) ?_
    rintro _ wd hxd ⟨xd, rfl, hqd⟩
    have htl := tmC_len nma sta csa
    simp only [↓vsd, vsn, gW, qd, qv, ev, pick, argE, zipE, ne_eq, eq_self, forall_const, implies_true, if_true, if_false, reduceIte, reduceCtorEq, Nat.reduceEqDiff, Nat.reduceAdd, Nat.reduceLT, ↓us_lFnStarts, r_lFnStarts]
    refine m_al ?_
    rintro be we hbe hblke hxe hse
    simp only [↓vsd, vsn, gW, qd, qv, ev, pick, argE, zipE, ne_eq, eq_self, forall_const, implies_true, if_true, if_false, reduceIte, reduceCtorEq, Nat.reduceEqDiff, Nat.reduceAdd, Nat.reduceLT, ↓us_lFnStarts, r_lFnStarts]
    refine m_st hblke rfl (Nat.le_refl 3) (fM_one (tmN nma sta csa) (tmS nma sta csa) xd hqd.one') ?_
    rintro wf hblkf huf
    have hDf : Blk wf be (fM (tmN nma sta csa) (tmS nma sta csa) xd) 26 := hblkf
    have hxdf : Ext wd wf := huf.below hxe (by omega)
    have hAf := (hAc.ext hxd).ext hxdf
    have hqcf := (hqc.ext hxd).ext hxdf
    have hqdf := hqd.ext hxdf
    have hxLf := (hxLc.trans hxd).trans hxdf
    simp only [↓vsd, vsn, gW, qd, qv, ev, pick, argE, zipE, ne_eq, eq_self, forall_const, implies_true, if_true, if_false, reduceIte, reduceCtorEq, Nat.reduceEqDiff, Nat.reduceAdd, Nat.reduceLT, ↓us_lFnStarts, r_lFnStarts, hAf.facts, fMg]
    refine m_call (sTurnMethod_t nma sta xa csa hnma hca8 (by omega) _ hqcf) ?_
    rintro _ wg hxg ⟨xg, rfl, hqg⟩
    simp only [↓vsd, vsn, gW, qd, qv, ev, pick, argE, zipE, ne_eq, eq_self, forall_const, implies_true, if_true, if_false, reduceIte, reduceCtorEq, Nat.reduceEqDiff, Nat.reduceAdd, Nat.reduceLT, ↓us_lFnStarts, r_lFnStarts]
    refine m_al ?_
    rintro bh wh hbh hblkh hxh hsh
    simp only [↓vsd, vsn, gW, qd, qv, ev, pick, argE, zipE, ne_eq, eq_self, forall_const, implies_true, if_true, if_false, reduceIte, reduceCtorEq, Nat.reduceEqDiff, Nat.reduceAdd, Nat.reduceLT, ↓us_lFnStarts, r_lFnStarts]
    refine m_st hblkh rfl (Nat.le_refl 3) (fM_one (tmN nma sta csa) (tmS nma sta csa) xg hqg.one') ?_
    rintro wi hblki hui
    have hGi : Blk wi bh (fM (tmN nma sta csa) (tmS nma sta csa) xg) 26 := hblki
    have hxgi : Ext wg wi := hui.below hxh (by omega)
    have hxfi := hxg.trans hxgi
    have hAi := hAf.ext hxfi
    have hDi := hDf.ext hxfi
    have hqci := hqcf.ext hxfi
    have hqdi := hqdf.ext hxfi
    have hqgi := hqg.ext hxgi
    simp only [↓vsd, vsn, gW, qd, qv, ev, pick, argE, zipE, ne_eq, eq_self, forall_const, implies_true, if_true, if_false, reduceIte, reduceCtorEq, Nat.reduceEqDiff, Nat.reduceAdd, Nat.reduceLT, ↓us_lFnStarts, r_lFnStarts, hAi.facts, fMg]
    refine m_call (iIsPalindrome_ok nma sta xa csa hnma hca8 (by omega) _ hqci) ?_
    rintro _ wj hxj rfl
    have hAj := hAi.ext hxj
    simp only [↓vsd, vsn, gW, qd, qv, ev, pick, argE, zipE, ne_eq, eq_self, forall_const, implies_true, if_true, if_false, reduceIte, reduceCtorEq, Nat.reduceEqDiff, Nat.reduceAdd, Nat.reduceLT, ↓us_lFnStarts, r_lFnStarts, hAj.facts, fMg]
    refine m_call (sIsPalindrome_ok nma sta xa csa hnma hca8 (by omega) _ (hqci.ext hxj)) ?_
    rintro _ wk hxk rfl
    have hxik := hxj.trans hxk
    have hDk := hDi.ext hxik
    have hGk := hGi.ext hxik
    have hxLk := (hxLf.trans hxfi).trans hxik
    simp only [↓vsd, vsn, gW, qd, qv, ev, pick, argE, zipE, ne_eq, eq_self, forall_const, implies_true, if_true, if_false, reduceIte, reduceCtorEq, Nat.reduceEqDiff, Nat.reduceAdd, Nat.reduceLT, ↓us_lFnStarts, r_lFnStarts]
    refine m_call (sDrawSameMethod_ok u more hlen.2 _ (h'.ext hxLk)) ?_
    rintro _ wl hxl ⟨nmp, stp, xp, csp, nmq, xq, csq, rfl, hqp, hqq, hpl, hql⟩
    simp only [↓vsd, vsn, gW, qd, qv, ev, pick, argE, zipE, ne_eq, eq_self, forall_const, implies_true, if_true, if_false, reduceIte, reduceCtorEq, Nat.reduceEqDiff, Nat.reduceAdd, Nat.reduceLT, ↓us_lFnStarts, r_lFnStarts]
    refine m_al ?_
    rintro bp wm hbp hblkm hxm hsm
    simp only [↓vsd, vsn, gW, qd, qv, ev, pick, argE, zipE, ne_eq, eq_self, forall_const, implies_true, if_true, if_false, reduceIte, reduceCtorEq, Nat.reduceEqDiff, Nat.reduceAdd, Nat.reduceLT, ↓us_lFnStarts, r_lFnStarts]
    refine m_al ?_
    rintro bq wn hbq hblkn hxn hsn
    simp only [↓vsd, vsn, gW, qd, qv, ev, pick, argE, zipE, ne_eq, eq_self, forall_const, implies_true, if_true, if_false, reduceIte, reduceCtorEq, Nat.reduceEqDiff, Nat.reduceAdd, Nat.reduceLT, ↓us_lFnStarts, r_lFnStarts]
    have hqpn := (hqp.ext hxm).ext hxn
    have hqqn := (hqq.ext hxm).ext hxn
    refine m_st (hblkm.ext hxn) rfl (Nat.le_refl 3) (fM_one nmp stp xp hqp.one') ?_
    rintro wo hblko huo
    have hPo : Blk wo bp (fM nmp stp xp) 26 := hblko
    have hsz := hxm.size
    have hxlo : Ext wl wo := huo.below (hxm.trans hxn) (by omega)
    simp only [↓vsd, vsn, gW, qd, qv, ev, pick, argE, zipE, ne_eq, eq_self, forall_const, implies_true, if_true, if_false, reduceIte, reduceCtorEq, Nat.reduceEqDiff, Nat.reduceAdd, Nat.reduceLT, ↓us_lFnStarts, r_lFnStarts]
    refine m_st (huo.blk hblkn (by omega)) rfl (Nat.le_refl 3) (fM_one nmq stp xq hqq.one') ?_
    rintro wp hblkp hup
    have hQp : Blk wp bq (fM nmq stp xq) 26 := hblkp
    have hPp := hup.blk hPo (by omega)
    have hxlp : Ext wl wp := hup.below hxlo (by omega)
    have hxkp := hxl.trans hxlp
    have hDp := hDk.ext hxkp
    have hGp := hGk.ext hxkp
    have hqdp := (hqdi.ext hxik).ext hxkp
    have hqgp := (hqgi.ext hxik).ext hxkp
    have hqpp := hqp.ext hxlp
    have hqqp := hqq.ext hxlp
    have hxLp := hxLk.trans hxkp
    simp only [↓vsd, vsn, gW, qd, qv, ev, pick, argE, zipE, ne_eq, eq_self, forall_const, implies_true, if_true, if_false, reduceIte, reduceCtorEq, Nat.reduceEqDiff, Nat.reduceAdd, Nat.reduceLT, ↓us_lFnStarts, r_lFnStarts, hDp.facts, hGp.facts, hPp.facts, hQp.facts, fMg]
    refine m_call (sSameMethod_ok _ _ _ _ xd xg (tmC nma sta csa) (tmC nma sta csa) (by omega) _ (by first | exact hqdp | exact hqdp.ext (dr (Ext.refl _))) (by first | exact hqgp | exact hqgp.ext (dr (Ext.refl _)))) ?_
    rintro _ wq hxq rfl
    have hxq : Ext wp wq := by first | exact hxq | exact ud hxq
    have hPq := hPp.ext hxq
    have hQq := hQp.ext hxq
    have hqpq := hqpp.ext hxq
    have hqqq := hqqp.ext hxq
    simp only [↓vsd, vsn, gW, qd, qv, ev, pick, argE, zipE, ne_eq, eq_self, forall_const, implies_true, if_true, if_false, reduceIte, reduceCtorEq, Nat.reduceEqDiff, Nat.reduceAdd, Nat.reduceLT, ↓us_lFnStarts, r_lFnStarts, hPp.facts, hQp.facts, hPq.facts, hQq.facts, fMg]
    refine m_call (iSameMethod_ok nmp nmq stp stp xp xq csp csq (by omega) _ (by first | exact hqpq | exact hqpq.ext (dr (Ext.refl _))) (by first | exact hqqq | exact hqqq.ext (dr (Ext.refl _)))) ?_
    rintro _ wr hxr rfl
    have hxr : Ext wq wr := by first | exact hxr | exact ud hxr
    simp only [↓vsd, vsn, gW, qd, qv, ev, pick, argE, zipE, ne_eq, eq_self, forall_const, implies_true, if_true, if_false, reduceIte, reduceCtorEq, Nat.reduceEqDiff, Nat.reduceAdd, Nat.reduceLT, ↓us_lFnStarts, r_lFnStarts]
    refine m_call (sSameMethod_ok nmp nmq stp stp xp xq csp csq (by omega) _ (by first | exact hqpq.ext hxr | exact (hqpq.ext hxr).ext (dr (Ext.refl _))) (by first | exact hqqq.ext hxr | exact (hqqq.ext hxr).ext (dr (Ext.refl _)))) ?_
    rintro _ wt hxt rfl
    have hxt : Ext wr wt := by first | exact hxt | exact ud hxt
    simp only [↓vsd, vsn, gW, qd, qv, ev, pick, argE, zipE, ne_eq, eq_self, forall_const, implies_true, if_true, if_false, reduceIte, reduceCtorEq, Nat.reduceEqDiff, Nat.reduceAdd, Nat.reduceLT, ↓us_lFnStarts, r_lFnStarts]
    exact ((hxLp.trans hxq).trans hxr).trans hxt
  · have hr4 := hn4 hok
    subst hr4
    rw [noM]
    simp only [↓vsd, vsn, gW, qd, qv, ev, pick, argE, zipE, ne_eq, eq_self, forall_const, implies_true, if_true, if_false, reduceIte, reduceCtorEq, Nat.reduceEqDiff, Nat.reduceAdd, Nat.reduceLT, ↓us_lFnStarts, r_lFnStarts]
    refine m_al ?_
    rintro bs w5 hbs hblk5 hx5 hs5
    simp only [↓vsd, vsn, gW, qd, qv, ev, pick, argE, zipE, ne_eq, eq_self, forall_const, implies_true, if_true, if_false, reduceIte, reduceCtorEq, Nat.reduceEqDiff, Nat.reduceAdd, Nat.reduceLT, ↓us_lFnStarts, r_lFnStarts]
    refine m_st hblk5 rfl (Nat.le_refl 3) (fM_one [] 0 (.slice none 0 0) rfl) ?_
    rintro w6 hblk6 hu6
    have hS6 : Blk w6 bs (fM [] 0 (.slice none 0 0)) 26 := hblk6
    have hx46 : Ext w4 w6 := hu6.below hx5 (by omega)
    have hM6 := hM4.ext hx46
    have hq6 := hq4.ext hx46
    simp only [↓vsd, vsn, gW, qd, qv, ev, pick, argE, zipE, ne_eq, eq_self, forall_const, implies_true, if_true, if_false, reduceIte, reduceCtorEq, Nat.reduceEqDiff, Nat.reduceAdd, Nat.reduceLT, ↓us_lFnStarts, r_lFnStarts, hM6.facts, fMg]
    refine m_call (sStartAt_ok nm st x cs k hnm hcs8 (by omega) _ hq6) ?_
    rintro r7 w7 hx7 ⟨hy7, hn7⟩
    have hr7 := hn7 hok
    subst hr7
    rw [noM]
    have hx17 := ((hx13.trans hx4).trans hx46).trans hx7
    have hS7 := hS6.ext hx7
    simp only [↓vsd, vsn, gW, qd, qv, ev, pick, argE, zipE, ne_eq, eq_self, forall_const, implies_true, if_true, if_false, reduceIte, reduceCtorEq, Nat.reduceEqDiff, Nat.reduceAdd, Nat.reduceLT, ↓us_lFnStarts, r_lFnStarts, hS7.facts, fMg]
    refine m_al ?_
    rintro bw w8 hbw hblk8 hx8 hs8
    simp only [↓vsd, vsn, gW, qd, qv, ev, pick, argE, zipE, ne_eq, eq_self, forall_const, implies_true, if_true, if_false, reduceIte, reduceCtorEq, Nat.reduceEqDiff, Nat.reduceAdd, Nat.reduceLT, ↓us_lFnStarts, r_lFnStarts]
    refine m_st hblk8 rfl (Nat.le_refl 3) (fM_one [] 0 (.slice none 0 0) rfl) ?_
    rintro w9 hblk9 hu9
    have hW9 : Blk w9 bw (fM [] 0 (.slice none 0 0)) 26 := hblk9
    have hx79 : Ext w7 w9 := hu9.below hx8 (by omega)
    have hS9 := hS7.ext hx79
    have hx19 := hx17.trans hx79
    simp only [↓vsd, vsn, gW, qd, qv, ev, pick, argE, zipE, ne_eq, eq_self, forall_const, implies_true, if_true, if_false, reduceIte, reduceCtorEq, Nat.reduceEqDiff, Nat.reduceAdd, Nat.reduceLT, ↓us_lFnStarts, r_lFnStarts, hS9.facts, hW9.facts, fMg]
    refine m_call (sSameMethod_ok [] [] 0 0 (.slice none 0 0) (.slice none 0 0) [] [] (by simp) _ (Sq.nil fS_len) (Sq.nil fS_len)) ?_
    rintro _ w10 hx10 rfl
    have hx10 : Ext w9 w10 := by first | exact hx10 | exact ud hx10
    have hxL := hx01.trans (hx19.trans hx10)
    simp only [↓vsd, vsn, gW, qd, qv, ev, pick, argE, zipE, ne_eq, eq_self, forall_const, implies_true, if_true, if_false, reduceIte, reduceCtorEq, Nat.reduceEqDiff, Nat.reduceAdd, Nat.reduceLT, ↓us_lFnStarts, r_lFnStarts]
    refine m_call (sDrawTurnMethod_ok u more hlen.2 _ (h'.ext hxL)) ?_
    rintro _ wa hxa ⟨nma, sta, xa, csa, rfl, hoa, hma⟩
    have hxLa := hxL.trans hxa
    have hnma : nma.length ≤ 1048576 := by have := hma.1; omega
    have hca8 : ∀ c ∈ csa, c.length ≤ 1048576 := fun c hc => by have := hma.2.2.2 c hc; omega
    have hcal := hma.2.2.1
    simp only [↓vsd, vsn, gW, qd, qv, ev, pick, argE, zipE, ne_eq, eq_self, forall_const, implies_true, if_true, if_false, reduceIte, reduceCtorEq, Nat.reduceEqDiff, Nat.reduceAdd, Nat.reduceLT, ↓us_lFnStarts, r_lFnStarts]
    refine m_al ?_
    rintro ba wb hba hblka hxb hsb
    simp only [↓vsd, vsn, gW, qd, qv, ev, pick, argE, zipE, ne_eq, eq_self, forall_const, implies_true, if_true, if_false, reduceIte, reduceCtorEq, Nat.reduceEqDiff, Nat.reduceAdd, Nat.reduceLT, ↓us_lFnStarts, r_lFnStarts]
    refine m_st hblka rfl (Nat.le_refl 3) (fM_one nma sta xa hoa.sq.one') ?_
    rintro wc hblkc huc
    have hAc : Blk wc ba (fM nma sta xa) 26 := hblkc
    have hxac : Ext wa wc := huc.below hxb (by omega)
    have hqc := hoa.sq.ext hxac
    have hxLc := hxLa.trans hxac
    simp only [↓vsd, vsn, gW, qd, qv, ev, pick, argE, zipE, ne_eq, eq_self, forall_const, implies_true, if_true, if_false, reduceIte, reduceCtorEq, Nat.reduceEqDiff, Nat.reduceAdd, Nat.reduceLT, ↓us_lFnStarts, r_lFnStarts, hAc.facts, fMg]
    refine m_call (iTurnMethod_t nma sta xa csa hnma hca8 (by omega) _ hqc) ?_
    rintro _ wd hxd ⟨xd, rfl, hqd⟩
    have htl := tmC_len nma sta csa
    simp only [↓vsd, vsn, gW, qd, qv, ev, pick, argE, zipE, ne_eq, eq_self, forall_const, implies_true, if_true, if_false, reduceIte, reduceCtorEq, Nat.reduceEqDiff, Nat.reduceAdd, Nat.reduceLT, ↓us_lFnStarts, r_lFnStarts]
    refine m_al ?_
    rintro be we hbe hblke hxe hse
    simp only [↓vsd, vsn, gW, qd, qv, ev, pick, argE, zipE, ne_eq, eq_self, forall_const, implies_true, if_true, if_false, reduceIte, reduceCtorEq, Nat.reduceEqDiff, Nat.reduceAdd, Nat.reduceLT, ↓us_lFnStarts, r_lFnStarts]
    refine m_st hblke rfl (Nat.le_refl 3) (fM_one (tmN nma sta csa) (tmS nma sta csa) xd hqd.one') ?_
    rintro wf hblkf huf
    have hDf : Blk wf be (fM (tmN nma sta csa) (tmS nma sta csa) xd) 26 := hblkf
    have hxdf : Ext wd wf := huf.below hxe (by omega)
    have hAf := (hAc.ext hxd).ext hxdf
    have hqcf := (hqc.ext hxd).ext hxdf
    have hqdf := hqd.ext hxdf
    have hxLf := (hxLc.trans hxd).trans hxdf
    simp only [↓vsd, vsn, gW, qd, qv, ev, pick, argE, zipE, ne_eq, eq_self, forall_const, implies_true, if_true, if_false, reduceIte, reduceCtorEq, Nat.reduceEqDiff, Nat.reduceAdd, Nat.reduceLT, ↓us_lFnStarts, r_lFnStarts, hAf.facts, fMg]
    refine m_call (sTurnMethod_t nma sta xa csa hnma hca8 (by omega) _ hqcf) ?_
    rintro _ wg hxg ⟨xg, rfl, hqg⟩
    simp only [↓vsd, vsn, gW, qd, qv, ev, pick, argE, zipE, ne_eq, eq_self, forall_const, implies_true, if_true, if_false, reduceIte, reduceCtorEq, Nat.reduceEqDiff, Nat.reduceAdd, Nat.reduceLT, ↓us_lFnStarts, r_lFnStarts]
    refine m_al ?_
    rintro bh wh hbh hblkh hxh hsh
    simp only [↓vsd, vsn, gW, qd, qv, ev, pick, argE, zipE, ne_eq, eq_self, forall_const, implies_true, if_true, if_false, reduceIte, reduceCtorEq, Nat.reduceEqDiff, Nat.reduceAdd, Nat.reduceLT, ↓us_lFnStarts, r_lFnStarts]
    refine m_st hblkh rfl (Nat.le_refl 3) (fM_one (tmN nma sta csa) (tmS nma sta csa) xg hqg.one') ?_
    rintro wi hblki hui
    have hGi : Blk wi bh (fM (tmN nma sta csa) (tmS nma sta csa) xg) 26 := hblki
    have hxgi : Ext wg wi := hui.below hxh (by omega)
    have hxfi := hxg.trans hxgi
    have hAi := hAf.ext hxfi
    have hDi := hDf.ext hxfi
    have hqci := hqcf.ext hxfi
    have hqdi := hqdf.ext hxfi
    have hqgi := hqg.ext hxgi
    simp only [↓vsd, vsn, gW, qd, qv, ev, pick, argE, zipE, ne_eq, eq_self, forall_const, implies_true, if_true, if_false, reduceIte, reduceCtorEq, Nat.reduceEqDiff, Nat.reduceAdd, Nat.reduceLT, ↓us_lFnStarts, r_lFnStarts, hAi.facts, fMg]
    refine m_call (iIsPalindrome_ok nma sta xa csa hnma hca8 (by omega) _ hqci) ?_
    rintro _ wj hxj rfl
    have hAj := hAi.ext hxj
    simp only [↓vsd, vsn, gW, qd, qv, ev, pick, argE, zipE, ne_eq, eq_self, forall_const, implies_true, if_true, if_false, reduceIte, reduceCtorEq, Nat.reduceEqDiff, Nat.reduceAdd, Nat.reduceLT, ↓us_lFnStarts, r_lFnStarts, hAj.facts, fMg]
    refine m_call (sIsPalindrome_ok nma sta xa csa hnma hca8 (by omega) _ (hqci.ext hxj)) ?_
    rintro _ wk hxk rfl
    have hxik := hxj.trans hxk
    have hDk := hDi.ext hxik
    have hGk := hGi.ext hxik
    have hxLk := (hxLf.trans hxfi).trans hxik
    simp only [↓vsd, vsn, gW, qd, qv, ev, pick, argE, zipE, ne_eq, eq_self, forall_const, implies_true, if_true, if_false, reduceIte, reduceCtorEq, Nat.reduceEqDiff, Nat.reduceAdd, Nat.reduceLT, ↓us_lFnStarts, r_lFnStarts]
    refine m_call (sDrawSameMethod_ok u more hlen.2 _ (h'.ext hxLk)) ?_
    rintro _ wl hxl ⟨nmp, stp, xp, csp, nmq, xq, csq, rfl, hqp, hqq, hpl, hql⟩
    simp only [↓vsd, vsn, gW, qd, qv, ev, pick, argE, zipE, ne_eq, eq_self, forall_const, implies_true, if_true, if_false, reduceIte, reduceCtorEq, Nat.reduceEqDiff, Nat.reduceAdd, Nat.reduceLT, ↓us_lFnStarts, r_lFnStarts]
    refine m_al ?_
    rintro bp wm hbp hblkm hxm hsm
    simp only [↓vsd, vsn, gW, qd, qv, ev, pick, argE, zipE, ne_eq, eq_self, forall_const, implies_true, if_true, if_false, reduceIte, reduceCtorEq, Nat.reduceEqDiff, Nat.reduceAdd, Nat.reduceLT, ↓us_lFnStarts, r_lFnStarts]
    refine m_al ?_
    rintro bq wn hbq hblkn hxn hsn
    simp only [↓vsd, vsn, gW, qd, qv, ev, pick, argE, zipE, ne_eq, eq_self, forall_const, implies_true, if_true, if_false, reduceIte, reduceCtorEq, Nat.reduceEqDiff, Nat.reduceAdd, Nat.reduceLT, ↓us_lFnStarts, r_lFnStarts]
    have hqpn := (hqp.ext hxm).ext hxn
    have hqqn := (hqq.ext hxm).ext hxn
    refine m_st (hblkm.ext hxn) rfl (Nat.le_refl 3) (fM_one nmp stp xp hqp.one') ?_
    rintro wo hblko huo
    have hPo : Blk wo bp (fM nmp stp xp) 26 := hblko
    have hsz := hxm.size
    have hxlo : Ext wl wo := huo.below (hxm.trans hxn) (by omega)
    simp only [↓vsd, vsn, gW, qd, qv, ev, pick, argE, zipE, ne_eq, eq_self, forall_const, implies_true, if_true, if_false, reduceIte, reduceCtorEq, Nat.reduceEqDiff, Nat.reduceAdd, Nat.reduceLT, ↓us_lFnStarts, r_lFnStarts]
    refine m_st (huo.blk hblkn (by omega)) rfl (Nat.le_refl 3) (fM_one nmq stp xq hqq.one') ?_
    rintro wp hblkp hup
    have hQp : Blk wp bq (fM nmq stp xq) 26 := hblkp
    have hPp := hup.blk hPo (by omega)
    have hxlp : Ext wl wp := hup.below hxlo (by omega)
    have hxkp := hxl.trans hxlp
    have hDp := hDk.ext hxkp
    have hGp := hGk.ext hxkp
    have hqdp := (hqdi.ext hxik).ext hxkp
    have hqgp := (hqgi.ext hxik).ext hxkp
    have hqpp := hqp.ext hxlp
    have hqqp := hqq.ext hxlp
    have hxLp := hxLk.trans hxkp
    simp only [↓vsd, vsn, gW, qd, qv, ev, pick, argE, zipE, ne_eq, eq_self, forall_const, implies_true, if_true, if_false, reduceIte, reduceCtorEq, Nat.reduceEqDiff, Nat.reduceAdd, Nat.reduceLT, ↓us_lFnStarts, r_lFnStarts, hDp.facts, hGp.facts, hPp.facts, hQp.facts, fMg]
    refine m_call (sSameMethod_ok _ _ _ _ xd xg (tmC nma sta csa) (tmC nma sta csa) (by omega) _ (by first | exact hqdp | exact hqdp.ext (dr (Ext.refl _))) (by first | exact hqgp | exact hqgp.ext (dr (Ext.refl _)))) ?_
    rintro _ wq hxq rfl
    have hxq : Ext wp wq := by first | exact hxq | exact ud hxq
    have hPq := hPp.ext hxq
    have hQq := hQp.ext hxq
    have hqpq := hqpp.ext hxq
    have hqqq := hqqp.ext hxq
    simp only [↓vsd, vsn, gW, qd, qv, ev, pick, argE, zipE, ne_eq, eq_self, forall_const, implies_true, if_true, if_false, reduceIte, reduceCtorEq, Nat.reduceEqDiff, Nat.reduceAdd, Nat.reduceLT, ↓us_lFnStarts, r_lFnStarts, hPp.facts, hQp.facts, hPq.facts, hQq.facts, fMg]
    refine m_call (iSameMethod_ok nmp nmq stp stp xp xq csp csq (by omega) _ (by first | exact hqpq | exact hqpq.ext (dr (Ext.refl _))) (by first | exact hqqq | exact hqqq.ext (dr (Ext.refl _)))) ?_
    rintro _ wr hxr rfl
    have hxr : Ext wq wr := by first | exact hxr | exact ud hxr
    simp only [↓vsd, vsn, gW, qd, qv, ev, pick, argE, zipE, ne_eq, eq_self, forall_const, implies_true, if_true, if_false, reduceIte, reduceCtorEq, Nat.reduceEqDiff, Nat.reduceAdd, Nat.reduceLT, ↓us_lFnStarts, r_lFnStarts]
    refine m_call (sSameMethod_ok nmp nmq stp stp xp xq csp csq (by omega) _ (by first | exact hqpq.ext hxr | exact (hqpq.ext hxr).ext (dr (Ext.refl _))) (by first | exact hqqq.ext hxr | exact (hqqq.ext hxr).ext (dr (Ext.refl _)))) ?_
    rintro _ wt hxt rfl
    have hxt : Ext wr wt := by first | exact hxt | exact ud hxt
    simp only [↓vsd, vsn, gW, qd, qv, ev, pick, argE, zipE, ne_eq, eq_self, forall_const, implies_true, if_true, if_false, reduceIte, reduceCtorEq, Nat.reduceEqDiff, Nat.reduceAdd, Nat.reduceLT, ↓us_lFnStarts, r_lFnStarts]
    exact ((hxLp.trans hxq).trans hxr).trans hxt
end Go.Proofs.Ytnincmnkdjlndaa
