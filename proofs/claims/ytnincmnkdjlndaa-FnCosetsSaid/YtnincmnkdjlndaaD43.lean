/-
  The drawing of groups with a row or rows, and the call of the law FnCosets.
  Conditions: none.
-/
import Derived.Test.YtnincmnkdjlndaaD41
import Derived.Test.YtnincmnkdjlndaaA72
import Derived.Test.YtnincmnkdjlndaaA36
import Derived.Test.YtnincmnkdjlndaaD3
set_option linter.unusedSimpArgs false
set_option linter.unusedVariables false
set_option linter.defProp false
namespace Go.Proofs.Ytnincmnkdjlndaa
open Go Go.RowKit
section
variable (P : Program) (k : KT) (e : Env) (w : World)
abbrev b101_1 : X := (.cond (.t 17) (.seq (.reg [2, 3] (.c (.q 18 [] (.mv (.t 5))) (.c (.q 19 [] (.mv (.t 4))) (.c (.e (some 20) [] (.call true 208 [(.t 19)])) (.c (.q 2 [] (.mv (.t 18))) (.c (.q 3 [] (.mv (.t 20))) .nil)))))) .ret) .skip)
def t101_1 := b101_1
theorem u101_1 : vcK P t101_1 k e w = vcK P b101_1 k e w := rfl
abbrev b101_2 : X := (.seq (.reg [2, 3] (.c (.q 21 [] (.mv (.t 5))) (.c (.q 22 [] (.mv (.t 4))) (.c (.q 23 [] (.mv (.t 5))) (.c (.q 24 [] (.ia 1 (.t 23) (.c (.int .i64 0)))) (.c (.q 25 [] (.ld (.t 24))) (.c (.q 26 [] (.len (.t 25))) (.c (.e (some 27) [] (.call true 178 [(.t 22), (.t 26)])) (.c (.q 2 [] (.mv (.t 21))) (.c (.q 3 [] (.mv (.t 27))) .nil)))))))))) .ret)
def t101_2 := b101_2
theorem u101_2 : vcK P t101_2 k e w = vcK P b101_2 k e w := rfl
abbrev b101_3 : X := (.seq (.seq (.reg [4, 5, 17] (.c (.q 11 [] (.mv (.t 5))) (.c (.q 12 [] (.lens (.t 11))) (.c (.q 13 [] (.bin .eql (.t 12) (.c (.int .i64 0)))) (.c (.q 14 [] (.mv (.t 13))) (.c (.q 15 [(14, false)] (.mv (.t 4))) (.c (.e (some 16) [(14, false)] (.call true 160 [(.t 15), (.c (.int .i64 10))])) (.c (.q 17 [] (.pick (.t 14) (.c (.bool true)) (.t 16))) .nil)))))))) t101_1) t101_2)
def t101_3 := b101_3
theorem u101_3 : vcK P t101_3 k e w = vcK P b101_3 k e w := rfl
abbrev b101_4 : X := (.seq (.reg [4, 5] (.c (.q 9 [] (.mv (.t 4))) (.c (.e (some 10) [] (.call true 224 [(.t 9)])) (.c (.q 5 [] (.mv (.t 10))) .nil)))) t101_3)
def t101_4 := b101_4
theorem u101_4 : vcK P t101_4 k e w = vcK P b101_4 k e w := rfl
abbrev b101_5 : X := (.seq (.reg [4] (.c (.q 6 [] (.mv (.t 0))) (.c (.q 7 [] (.bld [(.slice none 0 0), (.int .i64 0), (.int .u64 0)] [(0, 0, (.t 6))])) (.c (.e (some 8) [] (.box 121 (.t 7))) (.c (.q 4 [] (.mv (.t 8))) .nil))))) t101_4)
def t101_5 := b101_5
theorem u101_5 : vcK P t101_5 k e w = vcK P b101_5 k e w := rfl
abbrev b101_0 : X := (.seq (.reg [0] (.c (.q 2 [] (.mv (.c (.slice none 0 0)))) (.c (.q 3 [] (.mv (.s []))) .nil))) t101_5)
def x_sDrawCosetOf := b101_0
theorem u101_0 : vcK P x_sDrawCosetOf k e w = vcK P b101_0 k e w := rfl
def r_sDrawCosetOf : List XO := [(.mv (.t 2)), (.mv (.t 3))]
theorem c_sDrawCosetOf : convF Try.prog [147, 148, 152, 160, 162, 163, 170, 178, 206, 208, 210, 224, 233, 235, 236, 251, 264, 265, 268, 270, 287, 322] Try.f101 [([0], []), ([4], []), ([4, 5], []), ([4, 5, 17], []), ([2, 3], []), ([2, 3], [])] = some (x_sDrawCosetOf, r_sDrawCosetOf) := by kernel_rfl
def us_sDrawCosetOf :=  (aI (aI @u101_0 (aI @u101_1 @u101_2)) (aI @u101_3 (aI @u101_4 @u101_5)))
abbrev b105_1 : X := (.cond (.t 19) (.reg [4, 5, 6] (.c (.q 20 [] (.mv (.t 5))) (.c (.q 21 [] (.ia 1 (.t 20) (.c (.int .i64 0)))) (.c (.q 22 [] (.ld (.t 21))) (.c (.q 23 [] (.len (.t 22))) (.c (.q 6 [] (.mv (.t 23))) .nil)))))) .skip)
def t105_1 := b105_1
theorem u105_1 : vcK P t105_1 k e w = vcK P b105_1 k e w := rfl
abbrev b105_2 : X := (.seq (.reg [2, 3] (.c (.q 24 [] (.mv (.t 5))) (.c (.q 25 [] (.mv (.t 4))) (.c (.q 26 [] (.mv (.t 6))) (.c (.e (some 27) [] (.call true 233 [(.t 25), (.t 26), (.c (.int .i64 8))])) (.c (.q 2 [] (.mv (.t 24))) (.c (.q 3 [] (.mv (.t 27))) .nil))))))) .ret)
def t105_2 := b105_2
theorem u105_2 : vcK P t105_2 k e w = vcK P b105_2 k e w := rfl
abbrev b105_3 : X := (.seq (.seq (.reg [4, 5, 6, 19] (.c (.q 12 [] (.mv (.t 5))) (.c (.q 13 [] (.lens (.t 12))) (.c (.q 14 [] (.bin .gtr (.t 13) (.c (.int .i64 0)))) (.c (.q 15 [] (.mv (.t 14))) (.c (.q 16 [(15, true)] (.mv (.t 4))) (.c (.e (some 17) [(15, true)] (.call true 160 [(.t 16), (.c (.int .i64 10))])) (.c (.q 18 [(15, true)] (.not (.t 17))) (.c (.q 19 [] (.pick (.t 15) (.t 18) (.c (.bool false)))) .nil))))))))) t105_1) t105_2)
def t105_3 := b105_3
theorem u105_3 : vcK P t105_3 k e w = vcK P b105_3 k e w := rfl
abbrev b105_4 : X := (.seq (.reg [4, 5, 6] (.c (.q 6 [] (.mv (.c (.int .i64 4)))) .nil)) t105_3)
def t105_4 := b105_4
theorem u105_4 : vcK P t105_4 k e w = vcK P b105_4 k e w := rfl
abbrev b105_5 : X := (.seq (.reg [4, 5] (.c (.q 10 [] (.mv (.t 4))) (.c (.e (some 11) [] (.call true 224 [(.t 10)])) (.c (.q 5 [] (.mv (.t 11))) .nil)))) t105_4)
def t105_5 := b105_5
theorem u105_5 : vcK P t105_5 k e w = vcK P b105_5 k e w := rfl
abbrev b105_6 : X := (.seq (.reg [4] (.c (.q 7 [] (.mv (.t 0))) (.c (.q 8 [] (.bld [(.slice none 0 0), (.int .i64 0), (.int .u64 0)] [(0, 0, (.t 7))])) (.c (.e (some 9) [] (.box 121 (.t 8))) (.c (.q 4 [] (.mv (.t 9))) .nil))))) t105_5)
def t105_6 := b105_6
theorem u105_6 : vcK P t105_6 k e w = vcK P b105_6 k e w := rfl
abbrev b105_0 : X := (.seq (.reg [0] (.c (.q 2 [] (.mv (.c (.slice none 0 0)))) (.c (.q 3 [] (.mv (.c (.slice none 0 0)))) .nil))) t105_6)
def x_sDrawCosetsIn := b105_0
theorem u105_0 : vcK P x_sDrawCosetsIn k e w = vcK P b105_0 k e w := rfl
def r_sDrawCosetsIn : List XO := [(.mv (.t 2)), (.mv (.t 3))]
theorem c_sDrawCosetsIn : convF Try.prog [147, 148, 152, 160, 162, 163, 170, 178, 206, 208, 210, 224, 233, 235, 236, 251, 264, 265, 268, 270, 287, 322] Try.f105 [([0], []), ([4], []), ([4, 5], []), ([4, 5, 6], []), ([4, 5, 6, 19], []), ([4, 5, 6], []), ([2, 3], [])] = some (x_sDrawCosetsIn, r_sDrawCosetsIn) := by kernel_rfl
def us_sDrawCosetsIn :=  (aI (aI @u105_0 (aI @u105_1 @u105_2)) (aI (aI @u105_3 @u105_4) (aI @u105_5 @u105_6)))
abbrev b10_1 : X := (.cond (.t 29) (.seq (.reg [4] (.c (.q 4 [] (.mv (.c (.bool true)))) .nil)) .ret) .skip)
def t10_1 := b10_1
theorem u10_1 : vcK P t10_1 k e w = vcK P b10_1 k e w := rfl
abbrev b10_2 : X := (.cond (.t 55) (.seq (.reg [4] (.c (.q 4 [] (.mv (.c (.bool false)))) .nil)) .ret) .skip)
def t10_2 := b10_2
theorem u10_2 : vcK P t10_2 k e w = vcK P b10_2 k e w := rfl
abbrev b10_3 : X := (.cond (.t 85) (.seq (.reg [4] (.c (.q 4 [] (.mv (.c (.bool false)))) .nil)) .ret) .skip)
def t10_3 := b10_3
theorem u10_3 : vcK P t10_3 k e w = vcK P b10_3 k e w := rfl
abbrev b10_4 : X := (.cond (.t 117) (.seq (.reg [4] (.c (.q 4 [] (.mv (.c (.bool false)))) .nil)) .ret) .skip)
def t10_4 := b10_4
theorem u10_4 : vcK P t10_4 k e w = vcK P b10_4 k e w := rfl
abbrev b10_5 : X := (.seq (.reg [1, 117] (.c (.q 106 [] (.mv (.t 15))) (.c (.q 107 [] (.not (.t 106))) (.c (.q 108 [] (.mv (.t 107))) (.c (.q 109 [(108, false)] (.mv (.t 17))) (.c (.q 110 [(108, false)] (.not (.t 109))) (.c (.q 111 [] (.pick (.t 108) (.c (.bool true)) (.t 110))) (.c (.q 112 [] (.mv (.t 111))) (.c (.q 113 [(112, false)] (.mv (.t 7))) (.c (.q 114 [(112, false)] (.mv (.t 16))) (.c (.e (some 115) [(112, false)] (.call false 23 [(.t 113), (.t 114)])) (.c (.q 116 [(112, false)] (.not (.t 115))) (.c (.q 117 [] (.pick (.t 112) (.c (.bool true)) (.t 116))) .nil))))))))))))) t10_4)
def t10_5 := b10_5
theorem u10_5 : vcK P t10_5 k e w = vcK P b10_5 k e w := rfl
abbrev b10_6 : X := (.seq (.reg [1, 7, 15, 16, 17] (.c (.q 101 [] (.mv (.t 5))) (.c (.q 102 [] (.mv (.t 14))) (.c (.e (some 103) [] (.call false 102 [(.t 101), (.t 102)])) (.c (.q 100 [] (.mv (.t 103))) (.c (.q 104 [] (.ext 0 (.t 100))) (.c (.q 105 [] (.ext 1 (.t 100))) (.c (.q 16 [] (.mv (.t 104))) (.c (.q 17 [] (.mv (.t 105))) .nil))))))))) t10_5)
def t10_6 := b10_6
theorem u10_6 : vcK P t10_6 k e w = vcK P b10_6 k e w := rfl
abbrev b10_7 : X := (.seq (.reg [1, 5, 7, 14, 15] (.c (.q 95 [] (.mv (.t 6))) (.c (.q 96 [] (.mv (.t 13))) (.c (.e (some 97) [] (.call false 62 [(.t 95), (.t 96)])) (.c (.q 94 [] (.mv (.t 97))) (.c (.q 98 [] (.ext 0 (.t 94))) (.c (.q 99 [] (.ext 1 (.t 94))) (.c (.q 14 [] (.mv (.t 98))) (.c (.q 15 [] (.mv (.t 99))) .nil))))))))) t10_6)
def t10_7 := b10_7
theorem u10_7 : vcK P t10_7 k e w = vcK P b10_7 k e w := rfl
abbrev b10_8 : X := (.seq (.reg [1, 5, 6, 7, 13] (.c (.q 86 [] (.mv (.t 5))) (.c (.q 87 [] (.mv (.t 1))) (.c (.e (some 88) [] (.call false 50 [(.t 87)])) (.c (.q 89 [] (.mv (.t 5))) (.c (.q 90 [] (.lens (.t 89))) (.c (.q 91 [] (.bin .rem (.t 88) (.t 90))) (.c (.q 92 [] (.ia 1 (.t 86) (.t 91))) (.c (.q 93 [] (.ld (.t 92))) (.c (.q 13 [] (.mv (.t 93))) .nil)))))))))) t10_7)
def t10_8 := b10_8
theorem u10_8 : vcK P t10_8 k e w = vcK P b10_8 k e w := rfl
abbrev b10_9 : X := (.seq (.seq (.drw [1, 5, 6, 7, 85] (.c (.q 63 [] (.mv (.t 7))) (.c (.q 64 [] (.lens (.t 63))) (.c (.q 65 [] (.mv (.t 5))) (.c (.q 66 [] (.lens (.t 65))) (.c (.q 67 [] (.bin .neq (.t 64) (.t 66))) (.c (.q 68 [] (.mv (.t 67))) (.c (.q 69 [(68, false)] (.mv (.t 12))) (.c (.q 70 [(68, false)] (.not (.t 69))) (.c (.q 71 [] (.pick (.t 68) (.c (.bool true)) (.t 70))) (.c (.q 72 [] (.mv (.t 71))) (.c (.q 73 [(72, false)] (.mv (.t 11))) (.c (.q 74 [(72, false)] (.lens (.t 73))) (.c (.q 75 [(72, false)] (.bin .neq (.t 74) (.c (.int .i64 1)))) (.c (.q 76 [] (.pick (.t 72) (.c (.bool true)) (.t 75))) (.c (.q 77 [] (.mv (.t 76))) (.c (.q 78 [(77, false)] (.mv (.t 11))) (.c (.q 79 [(77, false)] (.ia 1 (.t 78) (.c (.int .i64 0)))) (.c (.q 80 [(77, false)] (.ld (.t 79))) (.c (.q 81 [(77, false)] (.mv (.t 7))) (.c (.q 82 [(77, false)] (.ia 1 (.t 81) (.c (.int .i64 0)))) (.c (.q 83 [(77, false)] (.ld (.t 82))) (.c (.q 84 [(77, false)] (.bin .neq (.t 80) (.t 83))) (.c (.q 85 [] (.pick (.t 77) (.c (.bool true)) (.t 84))) .nil)))))))))))))))))))))))) t10_3) t10_8)
def t10_9 := b10_9
theorem u10_9 : vcK P t10_9 k e w = vcK P b10_9 k e w := rfl
abbrev b10_10 : X := (.cond (.t 56) (.seq (.reg [1, 5, 6, 7, 11, 12] (.c (.q 58 [] (.mv (.t 5))) (.c (.q 59 [] (.mv (.t 7))) (.c (.e (some 60) [] (.call false 104 [(.t 58), (.t 59)])) (.c (.q 57 [] (.mv (.t 60))) (.c (.q 61 [] (.ext 0 (.t 57))) (.c (.q 62 [] (.ext 1 (.t 57))) (.c (.q 11 [] (.mv (.t 61))) (.c (.q 12 [] (.mv (.t 62))) .nil))))))))) t10_9) .skip)
def t10_10 := b10_10
theorem u10_10 : vcK P t10_10 k e w = vcK P b10_10 k e w := rfl
abbrev b10_11 : X := (.cond (.t 143) (.seq (.reg [4] (.c (.q 4 [] (.mv (.c (.bool false)))) .nil)) .ret) .skip)
def t10_11 := b10_11
theorem u10_11 : vcK P t10_11 k e w = vcK P b10_11 k e w := rfl
abbrev b10_12 : X := (.cond (.t 190) (.seq (.reg [4] (.c (.q 4 [] (.mv (.c (.bool false)))) .nil)) .ret) .skip)
def t10_12 := b10_12
theorem u10_12 : vcK P t10_12 k e w = vcK P b10_12 k e w := rfl
abbrev b10_13 : X := (.seq (.drw [18, 20, 145, 146, 190] (.c (.q 158 [] (.mv (.t 26))) (.c (.q 159 [] (.not (.t 158))) (.c (.q 160 [] (.mv (.t 159))) (.c (.q 161 [(160, false)] (.mv (.t 25))) (.c (.q 162 [(160, false)] (.lens (.t 161))) (.c (.q 163 [(160, false)] (.bin .eql (.t 162) (.c (.int .i64 0)))) (.c (.q 164 [] (.pick (.t 160) (.c (.bool true)) (.t 163))) (.c (.q 165 [] (.mv (.t 164))) (.c (.q 166 [(165, false)] (.mv (.t 25))) (.c (.q 167 [(165, false)] (.ia 1 (.t 166) (.c (.int .i64 0)))) (.c (.q 168 [(165, false)] (.ld (.t 167))) (.c (.q 169 [(165, false)] (.mv (.t 20))) (.c (.q 170 [(165, false)] (.mv (.t 24))) (.c (.q 171 [(165, false)] (.ia 1 (.t 169) (.t 170))) (.c (.q 172 [(165, false)] (.ld (.t 171))) (.c (.q 173 [(165, false)] (.bin .neq (.t 168) (.t 172))) (.c (.q 174 [] (.pick (.t 165) (.c (.bool true)) (.t 173))) (.c (.q 175 [] (.mv (.t 174))) (.c (.q 176 [(175, false)] (.mv (.t 24))) (.c (.q 177 [(175, false)] (.bin .gtr (.t 176) (.c (.int .i64 0)))) (.c (.q 178 [(175, false)] (.mv (.t 177))) (.c (.q 179 [(178, true), (175, false)] (.mv (.t 20))) (.c (.q 180 [(178, true), (175, false)] (.mv (.t 24))) (.c (.q 181 [(178, true), (175, false)] (.bin .sub (.t 180) (.c (.int .i64 1)))) (.c (.q 182 [(178, true), (175, false)] (.ia 1 (.t 179) (.t 181))) (.c (.q 183 [(178, true), (175, false)] (.ld (.t 182))) (.c (.q 184 [(178, true), (175, false)] (.mv (.t 20))) (.c (.q 185 [(178, true), (175, false)] (.mv (.t 24))) (.c (.q 186 [(178, true), (175, false)] (.ia 1 (.t 184) (.t 185))) (.c (.q 187 [(178, true), (175, false)] (.ld (.t 186))) (.c (.q 188 [(178, true), (175, false)] (.bin .geq (.t 183) (.t 187))) (.c (.q 189 [(175, false)] (.pick (.t 178) (.t 188) (.c (.bool false)))) (.c (.q 190 [] (.pick (.t 175) (.c (.bool true)) (.t 189))) .nil)))))))))))))))))))))))))))))))))) t10_12)
def t10_13 := b10_13
theorem u10_13 : vcK P t10_13 k e w = vcK P b10_13 k e w := rfl
abbrev b10_14 : X := (.seq (.reg [18, 20, 24, 25, 26, 145, 146] (.c (.q 150 [] (.mv (.t 18))) (.c (.q 151 [] (.mv (.t 20))) (.c (.q 152 [] (.mv (.t 24))) (.c (.q 153 [] (.ia 1 (.t 151) (.t 152))) (.c (.q 154 [] (.ld (.t 153))) (.c (.e (some 155) [] (.call false 102 [(.t 150), (.t 154)])) (.c (.q 149 [] (.mv (.t 155))) (.c (.q 156 [] (.ext 0 (.t 149))) (.c (.q 157 [] (.ext 1 (.t 149))) (.c (.q 25 [] (.mv (.t 156))) (.c (.q 26 [] (.mv (.t 157))) .nil)))))))))))) t10_13)
def t10_14 := b10_14
theorem u10_14 : vcK P t10_14 k e w = vcK P b10_14 k e w := rfl
abbrev b10_15 : X := (.reg [18, 20, 145, 146] (.c (.q 191 [] (.bin .add (.t 146) (.c (.int .i64 1)))) (.c (.q 146 [] (.mv (.t 191))) .nil)))
def t10_15 := b10_15
theorem u10_15 : vcK P t10_15 k e w = vcK P b10_15 k e w := rfl
abbrev b10_16 : X := (.seq (.blk 1 (.seq (.reg [18, 20, 24, 145, 146] (.c (.q 148 [] (.mv (.t 146))) (.c (.q 24 [] (.mv (.t 148))) .nil))) t10_14)) t10_15)
def t10_16 := b10_16
theorem u10_16 : vcK P t10_16 k e w = vcK P b10_16 k e w := rfl
abbrev b10_17 : X := (.seq (.cond (.t 147) .skip (.exit 0)) t10_16)
def t10_17 := b10_17
theorem u10_17 : vcK P t10_17 k e w = vcK P b10_17 k e w := rfl
abbrev b10_18 : X := (.seq (.reg [18, 20, 145, 146, 147] (.c (.q 147 [] (.bin .lss (.t 146) (.t 145))) .nil)) t10_17)
def t10_18 := b10_18
theorem u10_18 : vcK P t10_18 k e w = vcK P b10_18 k e w := rfl
abbrev b10_19 : X := (.blk 0 (.loop [146] [18, 20, 145] t10_18))
def t10_19 := b10_19
theorem u10_19 : vcK P t10_19 k e w = vcK P b10_19 k e w := rfl
abbrev b10_20 : X := (.seq (.reg [4] (.c (.q 4 [] (.mv (.c (.bool true)))) .nil)) .ret)
def t10_20 := b10_20
theorem u10_20 : vcK P t10_20 k e w = vcK P b10_20 k e w := rfl
abbrev b10_21 : X := (.seq (.seq (.reg [18, 20, 145, 146] (.c (.q 144 [] (.mv (.t 20))) (.c (.q 145 [] (.lens (.t 144))) (.c (.q 146 [] (.mv (.c (.int .i64 0)))) .nil)))) t10_19) t10_20)
def t10_21 := b10_21
theorem u10_21 : vcK P t10_21 k e w = vcK P b10_21 k e w := rfl
abbrev b10_22 : X := (.seq (.seq (.reg [18, 20, 143] (.c (.q 135 [] (.mv (.t 21))) (.c (.q 136 [] (.mv (.t 23))) (.c (.q 137 [] (.beq true (.t 135) (.t 136))) (.c (.q 138 [] (.mv (.t 137))) (.c (.q 139 [(138, false)] (.mv (.t 20))) (.c (.q 140 [(138, false)] (.mv (.t 22))) (.c (.e (some 141) [(138, false)] (.call false 23 [(.t 139), (.t 140)])) (.c (.q 142 [(138, false)] (.not (.t 141))) (.c (.q 143 [] (.pick (.t 138) (.c (.bool true)) (.t 142))) .nil)))))))))) t10_11) t10_21)
def t10_22 := b10_22
theorem u10_22 : vcK P t10_22 k e w = vcK P b10_22 k e w := rfl
abbrev b10_23 : X := (.seq (.reg [18, 20, 21, 22, 23] (.c (.q 130 [] (.mv (.t 18))) (.c (.q 131 [] (.mv (.t 19))) (.c (.e (some 132) [] (.call false 106 [(.t 130), (.t 131)])) (.c (.q 129 [] (.mv (.t 132))) (.c (.q 133 [] (.ext 0 (.t 129))) (.c (.q 134 [] (.ext 1 (.t 129))) (.c (.q 22 [] (.mv (.t 133))) (.c (.q 23 [] (.mv (.t 134))) .nil))))))))) t10_22)
def t10_23 := b10_23
theorem u10_23 : vcK P t10_23 k e w = vcK P b10_23 k e w := rfl
abbrev b10_24 : X := (.seq (.reg [18, 19, 20, 21] (.c (.q 124 [] (.mv (.t 18))) (.c (.q 125 [] (.mv (.t 19))) (.c (.e (some 126) [] (.call false 104 [(.t 124), (.t 125)])) (.c (.q 123 [] (.mv (.t 126))) (.c (.q 127 [] (.ext 0 (.t 123))) (.c (.q 128 [] (.ext 1 (.t 123))) (.c (.q 20 [] (.mv (.t 127))) (.c (.q 21 [] (.mv (.t 128))) .nil))))))))) t10_23)
def t10_24 := b10_24
theorem u10_24 : vcK P t10_24 k e w = vcK P b10_24 k e w := rfl
abbrev b10_25 : X := (.seq (.reg [18, 19] (.c (.q 119 [] (.mv (.t 1))) (.c (.e (some 120) [] (.call false 105 [(.t 119)])) (.c (.q 118 [] (.mv (.t 120))) (.c (.q 121 [] (.ext 0 (.t 118))) (.c (.q 122 [] (.ext 1 (.t 118))) (.c (.q 18 [] (.mv (.t 121))) (.c (.q 19 [] (.mv (.t 122))) .nil)))))))) t10_24)
def t10_25 := b10_25
theorem u10_25 : vcK P t10_25 k e w = vcK P b10_25 k e w := rfl
abbrev b10_26 : X := (.seq (.seq (.reg [1, 5, 6, 7, 56] (.c (.q 56 [] (.mv (.t 8))) .nil)) t10_10) t10_25)
def t10_26 := b10_26
theorem u10_26 : vcK P t10_26 k e w = vcK P b10_26 k e w := rfl
abbrev b10_27 : X := (.seq (.seq (.reg [1, 5, 6, 7, 8, 55] (.c (.q 47 [] (.mv (.t 8))) (.c (.q 48 [] (.mv (.t 10))) (.c (.q 49 [] (.beq true (.t 47) (.t 48))) (.c (.q 50 [] (.mv (.t 49))) (.c (.q 51 [(50, false)] (.mv (.t 7))) (.c (.q 52 [(50, false)] (.mv (.t 9))) (.c (.e (some 53) [(50, false)] (.call false 23 [(.t 51), (.t 52)])) (.c (.q 54 [(50, false)] (.not (.t 53))) (.c (.q 55 [] (.pick (.t 50) (.c (.bool true)) (.t 54))) .nil)))))))))) t10_2) t10_26)
def t10_27 := b10_27
theorem u10_27 : vcK P t10_27 k e w = vcK P b10_27 k e w := rfl
abbrev b10_28 : X := (.seq (.reg [1, 5, 6, 7, 8, 9, 10] (.c (.q 42 [] (.mv (.t 5))) (.c (.q 43 [] (.mv (.t 6))) (.c (.e (some 44) [] (.call false 103 [(.t 42), (.t 43)])) (.c (.q 41 [] (.mv (.t 44))) (.c (.q 45 [] (.ext 0 (.t 41))) (.c (.q 46 [] (.ext 1 (.t 41))) (.c (.q 9 [] (.mv (.t 45))) (.c (.q 10 [] (.mv (.t 46))) .nil))))))))) t10_27)
def t10_28 := b10_28
theorem u10_28 : vcK P t10_28 k e w = vcK P b10_28 k e w := rfl
abbrev b10_29 : X := (.seq (.reg [1, 5, 6, 7, 8] (.c (.q 36 [] (.mv (.t 5))) (.c (.q 37 [] (.mv (.t 6))) (.c (.e (some 38) [] (.call false 102 [(.t 36), (.t 37)])) (.c (.q 35 [] (.mv (.t 38))) (.c (.q 39 [] (.ext 0 (.t 35))) (.c (.q 40 [] (.ext 1 (.t 35))) (.c (.q 7 [] (.mv (.t 39))) (.c (.q 8 [] (.mv (.t 40))) .nil))))))))) t10_28)
def t10_29 := b10_29
theorem u10_29 : vcK P t10_29 k e w = vcK P b10_29 k e w := rfl
abbrev b10_30 : X := (.seq (.reg [1, 5, 6] (.c (.q 31 [] (.mv (.t 0))) (.c (.e (some 32) [] (.call false 101 [(.t 31)])) (.c (.q 30 [] (.mv (.t 32))) (.c (.q 33 [] (.ext 0 (.t 30))) (.c (.q 34 [] (.ext 1 (.t 30))) (.c (.q 5 [] (.mv (.t 33))) (.c (.q 6 [] (.mv (.t 34))) .nil)))))))) t10_29)
def t10_30 := b10_30
theorem u10_30 : vcK P t10_30 k e w = vcK P b10_30 k e w := rfl
abbrev b10_31 : X := (.seq (.seq (.reg [0, 1, 29] (.c (.q 27 [] (.mv (.t 0))) (.c (.q 28 [] (.mv (.t 1))) (.c (.e (some 29) [] (.call false 14 [(.t 27), (.t 28)])) .nil)))) t10_1) t10_30)
def t10_31 := b10_31
theorem u10_31 : vcK P t10_31 k e w = vcK P b10_31 k e w := rfl
abbrev b10_0 : X := (.seq (.reg [0, 1] (.c (.q 4 [] (.mv (.c (.bool false)))) .nil)) t10_31)
def x_lFnCosets := b10_0
theorem u10_0 : vcK P x_lFnCosets k e w = vcK P b10_0 k e w := rfl
def r_lFnCosets : List XO := [(.mv (.t 4))]
theorem c_lFnCosets : convF Try.prog [147, 148, 152, 160, 162, 163, 170, 178, 206, 208, 210, 224, 233, 235, 236, 251, 264, 265, 268, 270, 287, 322] Try.f10 [([0, 1], []), ([0, 1, 29], []), ([4], []), ([1, 5, 6], []), ([1, 5, 6, 7, 8], []), ([1, 5, 6, 7, 8, 9, 10], []), ([1, 5, 6, 7, 8, 55], []), ([4], []), ([1, 5, 6, 7, 56], []), ([1, 5, 6, 7, 11, 12], []), ([1, 5, 6, 7, 85], []), ([4], []), ([1, 5, 6, 7, 13], []), ([1, 5, 7, 14, 15], []), ([1, 7, 15, 16, 17], []), ([1, 117], []), ([4], []), ([18, 19], []), ([18, 19, 20, 21], []), ([18, 20, 21, 22, 23], []), ([18, 20, 143], []), ([4], []), ([18, 20, 145, 146], []), ([146], [18, 20, 145]), ([18, 20, 145, 146, 147], []), ([18, 20, 24, 145, 146], []), ([18, 20, 24, 25, 26, 145, 146], []), ([18, 20, 145, 146, 190], []), ([4], []), ([18, 20, 145, 146], []), ([4], [])] = some (x_lFnCosets, r_lFnCosets) := by kernel_rfl
def us_lFnCosets :=  (aI (aI (aI (aI (aI @u10_0 @u10_1) (aI @u10_2 @u10_3)) (aI (aI @u10_4 @u10_5) (aI @u10_6 @u10_7))) (aI (aI (aI @u10_8 @u10_9) (aI @u10_10 @u10_11)) (aI (aI @u10_12 @u10_13) (aI @u10_14 @u10_15)))) (aI (aI (aI (aI @u10_16 @u10_17) (aI @u10_18 @u10_19)) (aI (aI @u10_20 @u10_21) (aI @u10_22 @u10_23))) (aI (aI (aI @u10_24 @u10_25) (aI @u10_26 @u10_27)) (aI (aI @u10_28 @u10_29) (aI @u10_30 @u10_31)))))
end

theorem sDrawCosetOf_ok (v : Value) (code : List UInt8) (hl : code.length ≤ 1048576) (w : World) (h : Sq fU 1 w v code) : Fn 101 [v] w (fun r w' => ∃ l y x, r = .tuple ⟨[y, S x]⟩ ∧ Sq fS 1 w' y l ∧ l.length ≤ 800) := by
  (refine callsV_of mix Try.func101 c_sDrawCosetOf ?_; simp only [↓vsd, vsn, gW, qd, qv, ev, pick, argE, zipE, ne_eq, eq_self, forall_const, implies_true, if_true, if_false, reduceIte, reduceCtorEq, Nat.reduceEqDiff, Nat.reduceAdd, Nat.reduceLT, ↓us_sDrawCosetOf, r_sDrawCosetOf])
  simp only [↓vsd, vsn, gW, qd, qv, ev, pick, argE, zipE, ne_eq, eq_self, forall_const, implies_true, if_true, if_false, reduceIte, reduceCtorEq, Nat.reduceEqDiff, Nat.reduceAdd, Nat.reduceLT, ↓us_sDrawCosetOf, r_sDrawCosetOf, h.facts]
  refine m_al ?_
  rintro b w1 hb hblk hx1 hs1
  have hc := Cur.new h hl hb hblk hx1
  simp only [↓vsd, vsn, gW, qd, qv, ev, pick, argE, zipE, ne_eq, eq_self, forall_const, implies_true, if_true, if_false, reduceIte, reduceCtorEq, Nat.reduceEqDiff, Nat.reduceAdd, Nat.reduceLT, ↓us_sDrawCosetOf, r_sDrawCosetOf]
  refine m_callw (.inl rfl) (sl1Cur_group_ok w b _ w1 (by omega) hc) ?_
  rintro y w2 ⟨hc2, hg2, l, hh2, hl2, m, hm, hr⟩
  by_cases h0 : 0 < l.length
  · have h0I : ¬ (l.length : Int) = 0 := by omega
    simp only [↓vsd, vsn, gW, qd, qv, ev, pick, argE, zipE, ne_eq, eq_self, forall_const, implies_true, if_true, if_false, reduceIte, reduceCtorEq, Nat.reduceEqDiff, Nat.reduceAdd, Nat.reduceLT, ↓us_sDrawCosetOf, r_sDrawCosetOf, hh2.sq.facts, h0I]
    refine m_callw (by first | exact .inl rfl | exact .inr rfl) (sl1Cur_one_ok w b (0 + 50) 10 (by omega) _ (by omega) (by first | exact hc2 | exact hc2.ext (dr (Ext.refl _)))) ?_
    rintro _ w3 ⟨hc3, hg3, z, rfl⟩
    have hg3 : w2.grownBy w3 (some b) := by first | exact hg3 | exact gud hg3
    have hh3 := hh2.go hg3
    have a3 := hh3.sq.at0 [] h0
    have hr0 := hr _ (getD_mem [] h0)
    have hrl := hr0.2
    cases z
    · simp only [↓vsd, vsn, gW, qd, qv, ev, pick, argE, zipE, ne_eq, eq_self, forall_const, implies_true, if_true, if_false, reduceIte, reduceCtorEq, Nat.reduceEqDiff, Nat.reduceAdd, Nat.reduceLT, ↓us_sDrawCosetOf, r_sDrawCosetOf, hh3.sq.facts, a3, hrl]
      refine ⟨by omega, m_callw (by first | exact .inl rfl | exact .inr rfl) (sl1Cur_row_ok w b (0 + 50 + 2) m (by omega) _ (by omega) (by first | exact hc3 | exact hc3.ext (dr (Ext.refl _)))) ?_⟩
      rintro _ w4 ⟨hc4, hg4, x, rfl, hx⟩
      have hg4 : w3.grownBy w4 (some b) := by first | exact hg4 | exact gud hg4
      simp only [↓vsd, vsn, gW, qd, qv, ev, pick, argE, zipE, ne_eq, eq_self, forall_const, implies_true, if_true, if_false, reduceIte, reduceCtorEq, Nat.reduceEqDiff, Nat.reduceAdd, Nat.reduceLT, ↓us_sDrawCosetOf, r_sDrawCosetOf]
      exact ⟨hc4.base, l, y, x, rfl, (hh3.go hg4).sq, hl2⟩
    · simp only [↓vsd, vsn, gW, qd, qv, ev, pick, argE, zipE, ne_eq, eq_self, forall_const, implies_true, if_true, if_false, reduceIte, reduceCtorEq, Nat.reduceEqDiff, Nat.reduceAdd, Nat.reduceLT, ↓us_sDrawCosetOf, r_sDrawCosetOf]
      refine m_callw (by first | exact .inl rfl | exact .inr rfl) (sl1Cur_anyRow_ok w b (0 + 50 + 2) _ (by omega) (by first | exact hc3 | exact hc3.ext (dr (Ext.refl _)))) ?_
      rintro _ w4 ⟨hc4, hg4, x, rfl, hx⟩
      have hg4 : w3.grownBy w4 (some b) := by first | exact hg4 | exact gud hg4
      simp only [↓vsd, vsn, gW, qd, qv, ev, pick, argE, zipE, ne_eq, eq_self, forall_const, implies_true, if_true, if_false, reduceIte, reduceCtorEq, Nat.reduceEqDiff, Nat.reduceAdd, Nat.reduceLT, ↓us_sDrawCosetOf, r_sDrawCosetOf]
      exact ⟨hc4.base, l, y, x, rfl, (hh3.go hg4).sq, hl2⟩
  · have h0I : (l.length : Int) = 0 := by omega
    simp only [↓vsd, vsn, gW, qd, qv, ev, pick, argE, zipE, ne_eq, eq_self, forall_const, implies_true, if_true, if_false, reduceIte, reduceCtorEq, Nat.reduceEqDiff, Nat.reduceAdd, Nat.reduceLT, ↓us_sDrawCosetOf, r_sDrawCosetOf, hh2.sq.facts, h0I]
    refine m_callw (by first | exact .inl rfl | exact .inr rfl) (sl1Cur_anyRow_ok w b (0 + 50) _ (by omega) (by first | exact hc2 | exact hc2.ext (dr (Ext.refl _)))) ?_
    rintro _ w4 ⟨hc4, hg4, x, rfl, hx⟩
    have hg4 : w2.grownBy w4 (some b) := by first | exact hg4 | exact gud hg4
    simp only [↓vsd, vsn, gW, qd, qv, ev, pick, argE, zipE, ne_eq, eq_self, forall_const, implies_true, if_true, if_false, reduceIte, reduceCtorEq, Nat.reduceEqDiff, Nat.reduceAdd, Nat.reduceLT, ↓us_sDrawCosetOf, r_sDrawCosetOf]
    exact ⟨hc4.base, l, y, x, rfl, (hh2.go hg4).sq, hl2⟩
theorem sDrawCosetsIn_ok (v : Value) (code : List UInt8) (hl : code.length ≤ 1048576) (w : World) (h : Sq fU 1 w v code) : Fn 105 [v] w (fun r w' => ∃ l m y x, r = .tuple ⟨[y, x]⟩ ∧ Sq fS 1 w' y l ∧ Sq fS 1 w' x m ∧ l.length ≤ 800 ∧ m.length ≤ 100) := by
  (refine callsV_of mix Try.func105 c_sDrawCosetsIn ?_; simp only [↓vsd, vsn, gW, qd, qv, ev, pick, argE, zipE, ne_eq, eq_self, forall_const, implies_true, if_true, if_false, reduceIte, reduceCtorEq, Nat.reduceEqDiff, Nat.reduceAdd, Nat.reduceLT, ↓us_sDrawCosetsIn, r_sDrawCosetsIn])
  simp only [↓vsd, vsn, gW, qd, qv, ev, pick, argE, zipE, ne_eq, eq_self, forall_const, implies_true, if_true, if_false, reduceIte, reduceCtorEq, Nat.reduceEqDiff, Nat.reduceAdd, Nat.reduceLT, ↓us_sDrawCosetsIn, r_sDrawCosetsIn, h.facts]
  refine m_al ?_
  rintro b w1 hb hblk hx1 hs1
  have hc := Cur.new h hl hb hblk hx1
  simp only [↓vsd, vsn, gW, qd, qv, ev, pick, argE, zipE, ne_eq, eq_self, forall_const, implies_true, if_true, if_false, reduceIte, reduceCtorEq, Nat.reduceEqDiff, Nat.reduceAdd, Nat.reduceLT, ↓us_sDrawCosetsIn, r_sDrawCosetsIn]
  refine m_callw (.inl rfl) (sl1Cur_group_ok w b _ w1 (by omega) hc) ?_
  rintro y w2 ⟨hc2, hg2, l, hh2, hl2, m, hm, hr⟩
  by_cases h0 : 0 < l.length
  · have h0I : (0 : Int) < l.length := by omega
    simp only [↓vsd, vsn, gW, qd, qv, ev, pick, argE, zipE, ne_eq, eq_self, forall_const, implies_true, if_true, if_false, reduceIte, reduceCtorEq, Nat.reduceEqDiff, Nat.reduceAdd, Nat.reduceLT, ↓us_sDrawCosetsIn, r_sDrawCosetsIn, hh2.sq.facts, h0I]
    refine m_callw (by first | exact .inl rfl | exact .inr rfl) (sl1Cur_one_ok w b (0 + 50) 10 (by omega) _ (by omega) (by first | exact hc2 | exact hc2.ext (dr (Ext.refl _)))) ?_
    rintro _ w3 ⟨hc3, hg3, z, rfl⟩
    have hg3 : w2.grownBy w3 (some b) := by first | exact hg3 | exact gud hg3
    have hh3 := hh2.go hg3
    have a3 := hh3.sq.at0 [] h0
    have hr0 := hr _ (getD_mem [] h0)
    have hrl := hr0.2
    cases z
    · simp only [↓vsd, vsn, gW, qd, qv, ev, pick, argE, zipE, ne_eq, eq_self, forall_const, implies_true, if_true, if_false, reduceIte, reduceCtorEq, Nat.reduceEqDiff, Nat.reduceAdd, Nat.reduceLT, ↓us_sDrawCosetsIn, r_sDrawCosetsIn, hh3.sq.facts, a3, hrl]
      refine ⟨by omega, m_callw (by first | exact .inl rfl | exact .inr rfl) (sl1Cur_rowsOf_ok w b (0 + 50 + 2) m (by omega) 8 (by omega) _ (by omega) (by first | exact hc3 | exact hc3.ext (dr (Ext.refl _)))) ?_⟩
      rintro x w4 ⟨hc4, hg4, l4, ho4, hl4⟩
      have hg4 : w3.grownBy w4 (some b) := by first | exact hg4 | exact gud hg4
      simp only [↓vsd, vsn, gW, qd, qv, ev, pick, argE, zipE, ne_eq, eq_self, forall_const, implies_true, if_true, if_false, reduceIte, reduceCtorEq, Nat.reduceEqDiff, Nat.reduceAdd, Nat.reduceLT, ↓us_sDrawCosetsIn, r_sDrawCosetsIn]
      exact ⟨hc4.base, l, l4, y, x, rfl, (hh3.go hg4).sq, ho4.sq, hl2, hl4⟩
    · simp only [↓vsd, vsn, gW, qd, qv, ev, pick, argE, zipE, ne_eq, eq_self, forall_const, implies_true, if_true, if_false, reduceIte, reduceCtorEq, Nat.reduceEqDiff, Nat.reduceAdd, Nat.reduceLT, ↓us_sDrawCosetsIn, r_sDrawCosetsIn]
      refine m_callw (by first | exact .inl rfl | exact .inr rfl) (sl1Cur_rowsOf_ok w b (0 + 50 + 2) 4 (by omega) 8 (by omega) _ (by omega) (by first | exact hc3 | exact hc3.ext (dr (Ext.refl _)))) ?_
      rintro x w4 ⟨hc4, hg4, l4, ho4, hl4⟩
      have hg4 : w3.grownBy w4 (some b) := by first | exact hg4 | exact gud hg4
      simp only [↓vsd, vsn, gW, qd, qv, ev, pick, argE, zipE, ne_eq, eq_self, forall_const, implies_true, if_true, if_false, reduceIte, reduceCtorEq, Nat.reduceEqDiff, Nat.reduceAdd, Nat.reduceLT, ↓us_sDrawCosetsIn, r_sDrawCosetsIn]
      exact ⟨hc4.base, l, l4, y, x, rfl, (hh3.go hg4).sq, ho4.sq, hl2, hl4⟩
  · have h0I : ¬ (0 : Int) < l.length := by omega
    simp only [↓vsd, vsn, gW, qd, qv, ev, pick, argE, zipE, ne_eq, eq_self, forall_const, implies_true, if_true, if_false, reduceIte, reduceCtorEq, Nat.reduceEqDiff, Nat.reduceAdd, Nat.reduceLT, ↓us_sDrawCosetsIn, r_sDrawCosetsIn, hh2.sq.facts, h0I]
    refine m_callw (by first | exact .inl rfl | exact .inr rfl) (sl1Cur_rowsOf_ok w b (0 + 50) 4 (by omega) 8 (by omega) _ (by omega) (by first | exact hc2 | exact hc2.ext (dr (Ext.refl _)))) ?_
    rintro x w4 ⟨hc4, hg4, l4, ho4, hl4⟩
    have hg4 : w2.grownBy w4 (some b) := by first | exact hg4 | exact gud hg4
    simp only [↓vsd, vsn, gW, qd, qv, ev, pick, argE, zipE, ne_eq, eq_self, forall_const, implies_true, if_true, if_false, reduceIte, reduceCtorEq, Nat.reduceEqDiff, Nat.reduceAdd, Nat.reduceLT, ↓us_sDrawCosetsIn, r_sDrawCosetsIn]
    exact ⟨hc4.base, l, l4, y, x, rfl, (hh2.go hg4).sq, ho4.sq, hl2, hl4⟩
set_option maxHeartbeats 4000000 in
theorem lFnCosets_ok (v u : Value) (code more : List UInt8) (hcl : code.length ≤ 9223372036854775807) (hml : more.length ≤ 9223372036854775807) (w : World) (h : Sq fU 1 w v code) (h' : Sq fU 1 w u more) : Fn 10 [v, u] w (fun r _ => r = .bool true) := by
  (refine callsV_of mix Try.func10 c_lFnCosets ?_; simp only [↓vsd, vsn, gW, qd, qv, ev, pick, argE, zipE, ne_eq, eq_self, forall_const, implies_true, if_true, if_false, reduceIte, reduceCtorEq, Nat.reduceEqDiff, Nat.reduceAdd, Nat.reduceLT, ↓us_lFnCosets, r_lFnCosets])
  refine m_call (lbig_ok v u code more hcl hml _ h h') ?_
  rintro _ w0 hx0 rfl
  simp only [↓vsd, vsn, gW, qd, qv, ev, pick, argE, zipE, ne_eq, eq_self, forall_const, implies_true, if_true, if_false, reduceIte, reduceCtorEq, Nat.reduceEqDiff, Nat.reduceAdd, Nat.reduceLT, ↓us_lFnCosets, r_lFnCosets]
  refine ⟨fun _ => hx0, fun hsm => ?_⟩
  have hlen : code.length ≤ 1048576 ∧ more.length ≤ 1048576 := by omega
  refine m_call (sDrawCosetOf_ok v code hlen.1 _ (h.ext hx0)) ?_
  rintro _ w1 hx1 ⟨g, y, r, rfl, hqg, hgl⟩
  simp only [↓vsd, vsn, gW, qd, qv, ev, pick, argE, zipE, ne_eq, eq_self, forall_const, implies_true, if_true, if_false, reduceIte, reduceCtorEq, Nat.reduceEqDiff, Nat.reduceAdd, Nat.reduceLT, ↓us_lFnCosets, r_lFnCosets]
  refine m_call (iCosetOf_ok y g r (by omega) _ hqg) ?_
  rintro _ w2 hx2 ⟨x2, rfl, ho2⟩
  simp only [↓vsd, vsn, gW, qd, qv, ev, pick, argE, zipE, ne_eq, eq_self, forall_const, implies_true, if_true, if_false, reduceIte, reduceCtorEq, Nat.reduceEqDiff, Nat.reduceAdd, Nat.reduceLT, ↓us_lFnCosets, r_lFnCosets]
  refine m_call (sCosetOf_ok y g r (by omega) _ (hqg.ext hx2)) ?_
  rintro _ w3 hx3 ⟨x3, rfl, ho3⟩
  have hcll : (cosV g r).length ≤ 800 := by
    unfold cosV; split
    · rw [cosL_len]; omega
    · simp
  simp only [↓vsd, vsn, gW, qd, qv, ev, pick, argE, zipE, ne_eq, eq_self, forall_const, implies_true, if_true, if_false, reduceIte, reduceCtorEq, Nat.reduceEqDiff, Nat.reduceAdd, Nat.reduceLT, ↓us_lFnCosets, r_lFnCosets]
  refine m_call (lsameTexts_ok x2 x3 _ _ _ (ho2.sq.ext hx3) ho3.sq (by omega)) ?_
  rintro _ w4 hx4 rfl
  have hx04 := (((hx0.trans hx1).trans hx2).trans hx3).trans hx4
  have hq4 := (ho2.sq.ext hx3).ext hx4
  have hg4 := ((hqg.ext hx2).ext hx3).ext hx4
  by_cases hok : CosOk g r
  · have hG := hok.grp
    obtain ⟨hr, ⟨hrs, hst⟩, hri, hgr⟩ := hok
    have hok : CosOk g r := ⟨hr, ⟨hrs, hst⟩, hri, hgr⟩
    have hcv : cosV g r = cosL r g := by rw [cosV, if_pos hok]
    rw [hcv] at hq4 hcll
    have hcr : RowN r.length (cosL r g) := fun x hx => cos_row hG hr rfl hx
    have hclen := cosL_len r g
    have hpos := hG.pos
    have hposC : 0 < (cosL r g).length := by omega
    have hcin : CinOk g (cosL r g) := ⟨⟨hrs, hri, hgr⟩, ⟨fun x hx => by
      have a1 := hcr x hx
      have a2 := hcr _ (getD_mem [] hposC)
      exact ⟨a1.1, by rw [a1.2, a2.2]⟩, by omega⟩, .inr (by have := (hcr _ (getD_mem [] hposC)).2; unfold stgL at *; omega)⟩
    have hciv : cinV g (cosL r g) = [(cosL r g).getD 0 []] := by rw [cinV, if_pos hcin, cosetsL_one hG hr rfl]; rfl
    have hsame : ∀ s ∈ g, CosOk g (timesL r s) ∧ cosL (timesL r s) g = cosL r g := fun s hs => by
      have hm : timesL r s ∈ cosL r g := (cosL_mem r g _).2 ⟨s, hs, rfl⟩
      have := hcr _ hm
      exact ⟨⟨this.1, ⟨hrs, by rw [hst, this.2]⟩, hri, hgr⟩, hG.same hr rfl hm⟩
    have hokD := decide_eq_true hok
    simp only [↓vsd, vsn, gW, qd, qv, ev, pick, argE, zipE, ne_eq, eq_self, forall_const, implies_true, if_true, if_false, reduceIte, reduceCtorEq, Nat.reduceEqDiff, Nat.reduceAdd, Nat.reduceLT, ↓us_lFnCosets, r_lFnCosets, hokD]
    refine m_call (iCosetsIn_ok y x2 g (cosL r g) (by omega) (by omega) _ (by first | exact hg4 | exact hg4.ext (dr (Ext.refl w4))) (by first | exact hq4 | exact hq4.ext (dr (Ext.refl w4)))) ?_
    rintro _ w5 hx5 ⟨y5, rfl, ho5⟩
    have hx5 : Ext w4 w5 := by first | exact hx5 | exact ud hx5 | exact ud (ud hx5)
    have hcinD := decide_eq_true hcin
    rw [hciv] at ho5
    have hq5 := hq4.ext hx5
    have hg5 := hg4.ext hx5
    have a5 := ho5.sq.at0 [] (by simp)
    have b5 := hq5.at0 [] hposC
    have hlI : ((cosL r g).length : Int) = g.length := by omega
    have hlenI : ([(cosL r g).getD 0 []] : List Bs).length = 1 := rfl
    have hgetI : ([(cosL r g).getD 0 []] : List Bs).getD 0 [] = (cosL r g).getD 0 [] := rfl
    simp only [↓vsd, vsn, gW, qd, qv, ev, pick, argE, zipE, ne_eq, eq_self, forall_const, implies_true, if_true, if_false, reduceIte, reduceCtorEq, Nat.reduceEqDiff, Nat.reduceAdd, Nat.reduceLT, ↓us_lFnCosets, r_lFnCosets, hcinD, hq5.facts, hg5.facts, ho5.sq.facts, hlI, a5, b5, hlenI, hgetI]
    refine ⟨fun _ => by omega, fun _ => by omega, fun hh => ?_, fun _ => ?_⟩
    · exact hh rfl
    have hx05 := hx04.trans hx5
    refine m_call (lnumberOf_ok u more hlen.2 _ (by first | exact h'.ext hx05 | exact (h'.ext hx05).ext (dr (Ext.refl _)))) ?_
    rintro _ w6 hx6 ⟨z, rfl, hz⟩
    have hx6 : Ext w5 w6 := by first | exact hx6 | exact ud hx6 | exact ud (ud hx6)
    have hx06 := hx05.trans hx6
    have hg6 := hg5.ext hx6
    have hzm : z % g.length < g.length := Nat.mod_lt _ hpos
    have hmI : ((z : Nat) : Int).tmod ((g.length : Nat) : Int) = ((z % g.length : Nat) : Int) := rfl
    have a6 := hg6.at1 [] hzm
    have a6' := hg5.at1 [] hzm
    have hs := getD_mem [] hzm
    have hposI : ¬ ((g.length : Nat) : Int) = 0 := by omega
    have hsr := hrs.n _ hs
    obtain ⟨hco, hcl2⟩ := hsame _ hs
    generalize g.getD (z % g.length) [] = s at *
    simp only [↓vsd, vsn, gW, qd, qv, ev, pick, argE, zipE, ne_eq, eq_self, forall_const, implies_true, if_true, if_false, reduceIte, reduceCtorEq, Nat.reduceEqDiff, Nat.reduceAdd, Nat.reduceLT, ↓us_lFnCosets, r_lFnCosets, hg6.facts, hmI, a6, a6']
    refine ⟨hposI, by omega, m_call (iTimes_ok r s _) ?_⟩
    rintro _ w7 hx7 hr7
    have hx07 := hx06.trans hx7
    have hg7 := hg6.ext hx7
    have hq7 := (hq5.ext hx6).ext hx7
    have htwo : IsRow r ∧ IsRow s ∧ r.length = s.length := ⟨hr, hsr.1, by rw [hsr.2, hst]⟩
    rw [timesV, if_pos htwo] at hr7
    subst hr7
    simp only [↓vsd, vsn, gW, qd, qv, ev, pick, argE, zipE, ne_eq, eq_self, forall_const, implies_true, if_true, if_false, reduceIte, reduceCtorEq, Nat.reduceEqDiff, Nat.reduceAdd, Nat.reduceLT, ↓us_lFnCosets, r_lFnCosets]
    refine m_call (iCosetOf_ok y g (timesL r s) (by omega) _ hg7) ?_
    rintro _ w8 hx8 ⟨y8, rfl, ho8⟩
    have hcv8 : cosV g (timesL r s) = cosL r g := by rw [cosV, if_pos hco, hcl2]
    rw [hcv8] at ho8
    have hcoD := decide_eq_true hco
    simp only [↓vsd, vsn, gW, qd, qv, ev, pick, argE, zipE, ne_eq, eq_self, forall_const, implies_true, if_true, if_false, reduceIte, reduceCtorEq, Nat.reduceEqDiff, Nat.reduceAdd, Nat.reduceLT, ↓us_lFnCosets, r_lFnCosets, hcoD]
    refine m_call (lsameTexts_ok x2 y8 _ _ _ (by first | exact hq7.ext hx8 | exact (hq7.ext hx8).ext (dr (Ext.refl _))) (by first | exact ho8.sq | exact ho8.sq.ext (dr (Ext.refl _))) (by omega)) ?_
    rintro _ w9 hx9 rfl
    have hx9 : Ext w8 w9 := by first | exact hx9 | exact ud hx9 | exact ud (ud hx9)
    have hxL := (hx07.trans hx8).trans hx9
    simp only [↓vsd, vsn, gW, qd, qv, ev, pick, argE, zipE, ne_eq, eq_self, forall_const, implies_true, if_true, if_false, reduceIte, reduceCtorEq, Nat.reduceEqDiff, Nat.reduceAdd, Nat.reduceLT, ↓us_lFnCosets, r_lFnCosets]
    refine m_call (sDrawCosetsIn_ok u more hlen.2 _ (by first | exact h'.ext hxL | exact h'.ext (dr hxL))) ?_
    rintro _ wa hxa ⟨la, ma, ya, za, rfl, hqa, hra, hla, hma⟩
    have hxLa : Ext w wa := by first | exact hxL.trans hxa | exact hxL.trans (ud hxa)
    simp only [↓vsd, vsn, gW, qd, qv, ev, pick, argE, zipE, ne_eq, eq_self, forall_const, implies_true, if_true, if_false, reduceIte, reduceCtorEq, Nat.reduceEqDiff, Nat.reduceAdd, Nat.reduceLT, ↓us_lFnCosets, r_lFnCosets]
    refine m_call (iCosetsIn_ok ya za la ma (by omega) (by omega) _ hqa hra) ?_
    rintro _ wb hxb ⟨yb, rfl, hob⟩
    simp only [↓vsd, vsn, gW, qd, qv, ev, pick, argE, zipE, ne_eq, eq_self, forall_const, implies_true, if_true, if_false, reduceIte, reduceCtorEq, Nat.reduceEqDiff, Nat.reduceAdd, Nat.reduceLT, ↓us_lFnCosets, r_lFnCosets]
    refine m_call (sCosetsIn_ok ya za la ma (by omega) (by omega) _ (hqa.ext hxb) (hra.ext hxb)) ?_
    rintro _ wc hxc ⟨yc, rfl, hoc⟩
    have hcl : (cinV la ma).length ≤ 100 := by
      unfold cinV; split
      · exact Nat.le_trans (cosetsL_len _ _) hma
      · simp
    simp only [↓vsd, vsn, gW, qd, qv, ev, pick, argE, zipE, ne_eq, eq_self, forall_const, implies_true, if_true, if_false, reduceIte, reduceCtorEq, Nat.reduceEqDiff, Nat.reduceAdd, Nat.reduceLT, ↓us_lFnCosets, r_lFnCosets]
    refine m_call (lsameTexts_ok yb yc _ _ _ (hob.sq.ext hxc) hoc.sq (by omega)) ?_
    rintro _ wd hxd rfl
    have hxLd := ((hxLa.trans hxb).trans hxc).trans hxd
    have hqb := (hob.sq.ext hxc).ext hxd
    have hqg := ((hqa.ext hxb).ext hxc).ext hxd
    simp only [↓vsd, vsn, gW, qd, qv, ev, pick, argE, zipE, ne_eq, eq_self, forall_const, implies_true, if_true, if_false, reduceIte, reduceCtorEq, Nat.reduceEqDiff, Nat.reduceAdd, Nat.reduceLT, ↓us_lFnCosets, r_lFnCosets, hqb.facts]
    refine m_upto (cinV la ma).length (fun k vs w' => vs = [.int .i64 k] ∧ Ext wd w') ⟨rfl, Ext.refl _⟩ ?_
    rintro k vs we hk ⟨rfl, hxe⟩
    have hqe := hqb.ext hxe
    have hge := hqg.ext hxe
    by_cases hlt : k < (cinV la ma).length
    · have hltI : (k : Int) < (cinV la ma).length := by omega
      have hltJ : ¬ ((cinV la ma).length : Int) ≤ k := by omega
      by_cases hok : CinOk la ma
      · obtain ⟨⟨hr, hri, hgl⟩, ha⟩ := hok
        have e1 : cinV la ma = cosetsL la ma := by rw [cinV, if_pos ⟨⟨hr, hri, hgl⟩, ha⟩]
        rw [e1] at hlt hltI hltJ hqe
        have hG := hgl.grp hr.n hri.nodup
        have hat := cosetsL_at hG ha.n (getD_mem [] hlt)
        have hrise := cosetsL_rise la ma
        have ae := hqe.at1 [] hlt
        have hup : 0 < k → Op.bytesLess ((cosetsL la ma).getD (k - 1) []) ((cosetsL la ma).getD k []) = true := fun hk0 => by
          rw [less_lt]; exact decide_eq_true (rise_get hrise (k - 1) k (by omega) hlt)
        rw [e1]
        generalize hgr : (cosetsL la ma).getD k [] = r at *
        have hco : CosOk la r := ⟨hat.1.1, ⟨hr, hat.1.2.symm⟩, hri, hgl⟩
        have hcoD := decide_eq_true hco
        have hcv : cosV la r = cosL r la := by rw [cosV, if_pos hco]
        have hle : (cosL r la).getD 0 [] = r := hat.2
        have hpos : 0 < (cosL r la).length := by rw [cosL_len]; exact hG.pos
        have hposI : ¬ ((cosL r la).length : Int) = 0 := by omega
        simp only [↓vsd, vsn, gW, qd, qv, ev, pick, argE, zipE, ne_eq, eq_self, forall_const, implies_true, if_true, if_false, reduceIte, reduceCtorEq, Nat.reduceEqDiff, Nat.reduceAdd, Nat.reduceLT, ↓us_lFnCosets, r_lFnCosets, hltI, hltJ, hqe.facts, ae]
        refine ⟨by omega, m_call (iCosetOf_ok ya la r (by omega) _ (by first | exact hge | exact hge.ext (dr (Ext.refl we)))) ?_⟩
        rintro _ wf hxf ⟨yf, rfl, hof⟩
        have hxf : Ext we wf := by first | exact hxf | exact ud hxf | exact ud (ud hxf)
        rw [hcv] at hof
        have af := hof.sq.at0 [] hpos
        rw [hle] at af
        have hqf := hqe.ext hxf
        have aef := hqf.at1 [] hlt
        rw [hgr] at aef
        by_cases hk0 : k = 0
        · subst hk0
          have h0I : ¬ (0 : Int) < ((0 : Nat) : Int) := by decide
          simp only [↓vsd, vsn, gW, qd, qv, ev, pick, argE, zipE, ne_eq, eq_self, forall_const, implies_true, if_true, if_false, reduceIte, reduceCtorEq, Nat.reduceEqDiff, Nat.reduceAdd, Nat.reduceLT, ↓us_lFnCosets, r_lFnCosets, hcoD, hof.sq.facts, hposI, af, h0I, hqf.facts, ae, aef]
          exact ⟨by omega, by omega, inR_i64 (by omega), UpTo.next hlt ⟨rfl, by first | exact hxe.trans hxf | exact dr (hxe.trans hxf)⟩⟩
        · have h0I : (0 : Int) < (k : Int) := by omega
          have hup := hup (by omega)
          have ap := hqf.at1 [] (i := k - 1) (by omega)
          have e2 : (k : Int) - 1 = ((k - 1 : Nat) : Int) := by omega
          simp only [↓vsd, vsn, gW, qd, qv, ev, pick, argE, zipE, ne_eq, eq_self, forall_const, implies_true, if_true, if_false, reduceIte, reduceCtorEq, Nat.reduceEqDiff, Nat.reduceAdd, Nat.reduceLT, ↓us_lFnCosets, r_lFnCosets, hcoD, hof.sq.facts, hposI, af, h0I, hqf.facts, e2, ap, hup, ae, aef]
          exact ⟨by omega, by omega, inR_i64 (by omega), by omega, by omega, inR_i64 (by omega), UpTo.next hlt ⟨rfl, by first | exact hxe.trans hxf | exact dr (hxe.trans hxf)⟩⟩
      · rw [cinV, if_neg hok] at hlt
        exact absurd hlt (by simp)
    · obtain rfl : k = (cinV la ma).length := by omega
      have hltI : ¬ ((cinV la ma).length : Int) < (cinV la ma).length := by omega
      simp only [↓vsd, vsn, gW, qd, qv, ev, pick, argE, zipE, ne_eq, eq_self, forall_const, implies_true, if_true, if_false, reduceIte, reduceCtorEq, Nat.reduceEqDiff, Nat.reduceAdd, Nat.reduceLT, ↓us_lFnCosets, r_lFnCosets, hltI]
      exact hxLd.trans hxe
  · have hokD := decide_eq_false hok
    have hxL := hx04
    simp only [↓vsd, vsn, gW, qd, qv, ev, pick, argE, zipE, ne_eq, eq_self, forall_const, implies_true, if_true, if_false, reduceIte, reduceCtorEq, Nat.reduceEqDiff, Nat.reduceAdd, Nat.reduceLT, ↓us_lFnCosets, r_lFnCosets, hokD]
    refine m_call (sDrawCosetsIn_ok u more hlen.2 _ (by first | exact h'.ext hxL | exact h'.ext (dr hxL))) ?_
    rintro _ wa hxa ⟨la, ma, ya, za, rfl, hqa, hra, hla, hma⟩
    have hxLa : Ext w wa := by first | exact hxL.trans hxa | exact hxL.trans (ud hxa)
    simp only [↓vsd, vsn, gW, qd, qv, ev, pick, argE, zipE, ne_eq, eq_self, forall_const, implies_true, if_true, if_false, reduceIte, reduceCtorEq, Nat.reduceEqDiff, Nat.reduceAdd, Nat.reduceLT, ↓us_lFnCosets, r_lFnCosets]
    refine m_call (iCosetsIn_ok ya za la ma (by omega) (by omega) _ hqa hra) ?_
    rintro _ wb hxb ⟨yb, rfl, hob⟩
    simp only [↓vsd, vsn, gW, qd, qv, ev, pick, argE, zipE, ne_eq, eq_self, forall_const, implies_true, if_true, if_false, reduceIte, reduceCtorEq, Nat.reduceEqDiff, Nat.reduceAdd, Nat.reduceLT, ↓us_lFnCosets, r_lFnCosets]
    refine m_call (sCosetsIn_ok ya za la ma (by omega) (by omega) _ (hqa.ext hxb) (hra.ext hxb)) ?_
    rintro _ wc hxc ⟨yc, rfl, hoc⟩
    have hcl : (cinV la ma).length ≤ 100 := by
      unfold cinV; split
      · exact Nat.le_trans (cosetsL_len _ _) hma
      · simp
    simp only [↓vsd, vsn, gW, qd, qv, ev, pick, argE, zipE, ne_eq, eq_self, forall_const, implies_true, if_true, if_false, reduceIte, reduceCtorEq, Nat.reduceEqDiff, Nat.reduceAdd, Nat.reduceLT, ↓us_lFnCosets, r_lFnCosets]
    refine m_call (lsameTexts_ok yb yc _ _ _ (hob.sq.ext hxc) hoc.sq (by omega)) ?_
    rintro _ wd hxd rfl
    have hxLd := ((hxLa.trans hxb).trans hxc).trans hxd
    have hqb := (hob.sq.ext hxc).ext hxd
    have hqg := ((hqa.ext hxb).ext hxc).ext hxd
    simp only [↓vsd, vsn, gW, qd, qv, ev, pick, argE, zipE, ne_eq, eq_self, forall_const, implies_true, if_true, if_false, reduceIte, reduceCtorEq, Nat.reduceEqDiff, Nat.reduceAdd, Nat.reduceLT, ↓us_lFnCosets, r_lFnCosets, hqb.facts]
    refine m_upto (cinV la ma).length (fun k vs w' => vs = [.int .i64 k] ∧ Ext wd w') ⟨rfl, Ext.refl _⟩ ?_
    rintro k vs we hk ⟨rfl, hxe⟩
    have hqe := hqb.ext hxe
    have hge := hqg.ext hxe
    by_cases hlt : k < (cinV la ma).length
    · have hltI : (k : Int) < (cinV la ma).length := by omega
      have hltJ : ¬ ((cinV la ma).length : Int) ≤ k := by omega
      by_cases hok : CinOk la ma
      · obtain ⟨⟨hr, hri, hgl⟩, ha⟩ := hok
        have e1 : cinV la ma = cosetsL la ma := by rw [cinV, if_pos ⟨⟨hr, hri, hgl⟩, ha⟩]
        rw [e1] at hlt hltI hltJ hqe
        have hG := hgl.grp hr.n hri.nodup
        have hat := cosetsL_at hG ha.n (getD_mem [] hlt)
        have hrise := cosetsL_rise la ma
        have ae := hqe.at1 [] hlt
        have hup : 0 < k → Op.bytesLess ((cosetsL la ma).getD (k - 1) []) ((cosetsL la ma).getD k []) = true := fun hk0 => by
          rw [less_lt]; exact decide_eq_true (rise_get hrise (k - 1) k (by omega) hlt)
        rw [e1]
        generalize hgr : (cosetsL la ma).getD k [] = r at *
        have hco : CosOk la r := ⟨hat.1.1, ⟨hr, hat.1.2.symm⟩, hri, hgl⟩
        have hcoD := decide_eq_true hco
        have hcv : cosV la r = cosL r la := by rw [cosV, if_pos hco]
        have hle : (cosL r la).getD 0 [] = r := hat.2
        have hpos : 0 < (cosL r la).length := by rw [cosL_len]; exact hG.pos
        have hposI : ¬ ((cosL r la).length : Int) = 0 := by omega
        simp only [↓vsd, vsn, gW, qd, qv, ev, pick, argE, zipE, ne_eq, eq_self, forall_const, implies_true, if_true, if_false, reduceIte, reduceCtorEq, Nat.reduceEqDiff, Nat.reduceAdd, Nat.reduceLT, ↓us_lFnCosets, r_lFnCosets, hltI, hltJ, hqe.facts, ae]
        refine ⟨by omega, m_call (iCosetOf_ok ya la r (by omega) _ (by first | exact hge | exact hge.ext (dr (Ext.refl we)))) ?_⟩
        rintro _ wf hxf ⟨yf, rfl, hof⟩
        have hxf : Ext we wf := by first | exact hxf | exact ud hxf | exact ud (ud hxf)
        rw [hcv] at hof
        have af := hof.sq.at0 [] hpos
        rw [hle] at af
        have hqf := hqe.ext hxf
        have aef := hqf.at1 [] hlt
        rw [hgr] at aef
        by_cases hk0 : k = 0
        · subst hk0
          have h0I : ¬ (0 : Int) < ((0 : Nat) : Int) := by decide
          simp only [↓vsd, vsn, gW, qd, qv, ev, pick, argE, zipE, ne_eq, eq_self, forall_const, implies_true, if_true, if_false, reduceIte, reduceCtorEq, Nat.reduceEqDiff, Nat.reduceAdd, Nat.reduceLT, ↓us_lFnCosets, r_lFnCosets, hcoD, hof.sq.facts, hposI, af, h0I, hqf.facts, ae, aef]
          exact ⟨by omega, by omega, inR_i64 (by omega), UpTo.next hlt ⟨rfl, by first | exact hxe.trans hxf | exact dr (hxe.trans hxf)⟩⟩
        · have h0I : (0 : Int) < (k : Int) := by omega
          have hup := hup (by omega)
          have ap := hqf.at1 [] (i := k - 1) (by omega)
          have e2 : (k : Int) - 1 = ((k - 1 : Nat) : Int) := by omega
          simp only [↓vsd, vsn, gW, qd, qv, ev, pick, argE, zipE, ne_eq, eq_self, forall_const, implies_true, if_true, if_false, reduceIte, reduceCtorEq, Nat.reduceEqDiff, Nat.reduceAdd, Nat.reduceLT, ↓us_lFnCosets, r_lFnCosets, hcoD, hof.sq.facts, hposI, af, h0I, hqf.facts, e2, ap, hup, ae, aef]
          exact ⟨by omega, by omega, inR_i64 (by omega), by omega, by omega, inR_i64 (by omega), UpTo.next hlt ⟨rfl, by first | exact hxe.trans hxf | exact dr (hxe.trans hxf)⟩⟩
      · rw [cinV, if_neg hok] at hlt
        exact absurd hlt (by simp)
    · obtain rfl : k = (cinV la ma).length := by omega
      have hltI : ¬ ((cinV la ma).length : Int) < (cinV la ma).length := by omega
      simp only [↓vsd, vsn, gW, qd, qv, ev, pick, argE, zipE, ne_eq, eq_self, forall_const, implies_true, if_true, if_false, reduceIte, reduceCtorEq, Nat.reduceEqDiff, Nat.reduceAdd, Nat.reduceLT, ↓us_lFnCosets, r_lFnCosets, hltI]
      exact hxLd.trans hxe
end Go.Proofs.Ytnincmnkdjlndaa
