/-
  The call of the law FnClosed.
  Conditions: none.
-/
import Derived.Test.YtnincmnkdjlndaaD41
import Derived.Test.YtnincmnkdjlndaaD7
import Derived.Test.YtnincmnkdjlndaaA36
set_option linter.unusedSimpArgs false
set_option linter.unusedVariables false
set_option linter.defProp false
namespace Go.Proofs.Ytnincmnkdjlndaa
open Go Go.RowKit
section
variable (P : Program) (k : KT) (e : Env) (w : World)
abbrev b116_1 : X := (.seq (.reg [2] (.c (.q 3 [] (.mv (.t 0))) (.c (.e (some 4) [] (.call false 172 [(.t 3)])) (.c (.q 2 [] (.mv (.t 4))) .nil)))) .ret)
def t116_1 := b116_1
theorem u116_1 : vcK P t116_1 k e w = vcK P b116_1 k e w := rfl
abbrev b116_0 : X := (.seq (.reg [0] (.c (.q 2 [] (.mv (.c (.bool false)))) .nil)) t116_1)
def x_sGoodRows := b116_0
theorem u116_0 : vcK P x_sGoodRows k e w = vcK P b116_0 k e w := rfl
def r_sGoodRows : List XO := [(.mv (.t 2))]
theorem c_sGoodRows : convF Try.prog [147, 148, 152, 160, 162, 163, 170, 178, 206, 208, 210, 224, 233, 235, 236, 251, 264, 265, 268, 270, 287, 322] Try.f116 [([0], []), ([2], [])] = some (x_sGoodRows, r_sGoodRows) := by kernel_rfl
def us_sGoodRows :=  (aI @u116_0 @u116_1)
abbrev b11_1 : X := (.cond (.t 29) (.seq (.reg [4] (.c (.q 4 [] (.mv (.c (.bool true)))) .nil)) .ret) .skip)
def t11_1 := b11_1
theorem u11_1 : vcK P t11_1 k e w = vcK P b11_1 k e w := rfl
abbrev b11_2 : X := (.cond (.t 50) (.seq (.reg [4] (.c (.q 4 [] (.mv (.c (.bool false)))) .nil)) .ret) .skip)
def t11_2 := b11_2
theorem u11_2 : vcK P t11_2 k e w = vcK P b11_2 k e w := rfl
abbrev b11_3 : X := (.cond (.t 67) .skip (.exit 0))
def t11_3 := b11_3
theorem u11_3 : vcK P t11_3 k e w = vcK P b11_3 k e w := rfl
abbrev b11_4 : X := (.reg [1, 5, 6, 10, 11, 12, 13] (.c (.q 68 [] (.mv (.t 13))) (.c (.q 69 [] (.bin .add (.t 68) (.c (.int .i64 1)))) (.c (.q 13 [] (.mv (.t 69))) .nil))))
def t11_4 := b11_4
theorem u11_4 : vcK P t11_4 k e w = vcK P b11_4 k e w := rfl
abbrev b11_5 : X := (.seq (.blk 1 (.reg [1, 5, 6, 10, 11, 12, 13] (.c (.q 70 [] (.mv (.t 12))) (.c (.q 71 [] (.mv (.t 13))) (.c (.q 72 [] (.bin .mul (.t 70) (.t 71))) (.c (.q 12 [] (.mv (.t 72))) .nil)))))) t11_4)
def t11_5 := b11_5
theorem u11_5 : vcK P t11_5 k e w = vcK P b11_5 k e w := rfl
abbrev b11_6 : X := (.seq (.seq (.reg [1, 5, 6, 10, 11, 12, 13, 67] (.c (.q 62 [] (.mv (.t 13))) (.c (.q 63 [] (.mv (.t 5))) (.c (.q 64 [] (.ia 1 (.t 63) (.c (.int .i64 0)))) (.c (.q 65 [] (.ld (.t 64))) (.c (.q 66 [] (.len (.t 65))) (.c (.q 67 [] (.bin .leq (.t 62) (.t 66))) .nil))))))) t11_3) t11_5)
def t11_6 := b11_6
theorem u11_6 : vcK P t11_6 k e w = vcK P b11_6 k e w := rfl
abbrev b11_7 : X := (.blk 0 (.loop [12, 13] [1, 5, 6, 10, 11] t11_6))
def t11_7 := b11_7
theorem u11_7 : vcK P t11_7 k e w = vcK P b11_7 k e w := rfl
abbrev b11_8 : X := (.cond (.t 85) (.seq (.reg [4] (.c (.q 4 [] (.mv (.c (.bool false)))) .nil)) .ret) .skip)
def t11_8 := b11_8
theorem u11_8 : vcK P t11_8 k e w = vcK P b11_8 k e w := rfl
abbrev b11_9 : X := (.reg [1, 6, 15, 16, 86, 87, 88, 92, 93, 94] (.c (.q 98 [] (.mv (.t 16))) (.c (.q 99 [] (.mv (.t 98))) (.c (.q 100 [(99, false)] (.mv (.t 18))) (.c (.q 101 [(99, false)] (.mv (.t 15))) (.c (.q 102 [(99, false)] (.bin .eql (.t 100) (.t 101))) (.c (.q 103 [] (.pick (.t 99) (.c (.bool true)) (.t 102))) (.c (.q 16 [] (.mv (.t 103))) .nil))))))))
def t11_9 := b11_9
theorem u11_9 : vcK P t11_9 k e w = vcK P b11_9 k e w := rfl
abbrev b11_10 : X := (.reg [1, 6, 15, 16, 86, 87, 88, 92, 93, 94] (.c (.q 104 [] (.bin .add (.t 94) (.c (.int .i64 1)))) (.c (.q 94 [] (.mv (.t 104))) .nil)))
def t11_10 := b11_10
theorem u11_10 : vcK P t11_10 k e w = vcK P b11_10 k e w := rfl
abbrev b11_11 : X := (.seq (.blk 5 (.seq (.reg [1, 6, 15, 16, 18, 86, 87, 88, 92, 93, 94] (.c (.q 96 [] (.ia 1 (.t 92) (.t 94))) (.c (.q 97 [] (.ld (.t 96))) (.c (.q 18 [] (.mv (.t 97))) .nil)))) t11_9)) t11_10)
def t11_11 := b11_11
theorem u11_11 : vcK P t11_11 k e w = vcK P b11_11 k e w := rfl
abbrev b11_12 : X := (.seq (.cond (.t 95) .skip (.exit 4)) t11_11)
def t11_12 := b11_12
theorem u11_12 : vcK P t11_12 k e w = vcK P b11_12 k e w := rfl
abbrev b11_13 : X := (.seq (.reg [1, 6, 15, 16, 86, 87, 88, 92, 93, 94, 95] (.c (.q 95 [] (.bin .lss (.t 94) (.t 93))) .nil)) t11_12)
def t11_13 := b11_13
theorem u11_13 : vcK P t11_13 k e w = vcK P b11_13 k e w := rfl
abbrev b11_14 : X := (.blk 4 (.loop [16, 94] [1, 6, 15, 86, 87, 88, 92, 93] t11_13))
def t11_14 := b11_14
theorem u11_14 : vcK P t11_14 k e w = vcK P b11_14 k e w := rfl
abbrev b11_15 : X := (.cond (.t 122) (.seq (.reg [4] (.c (.q 4 [] (.mv (.c (.bool false)))) .nil)) .ret) .skip)
def t11_15 := b11_15
theorem u11_15 : vcK P t11_15 k e w = vcK P b11_15 k e w := rfl
abbrev b11_16 : X := (.seq (.reg [1, 6, 86, 87, 88, 122] (.c (.q 110 [] (.mv (.t 16))) (.c (.q 111 [] (.not (.t 110))) (.c (.q 112 [] (.mv (.t 111))) (.c (.q 113 [(112, false)] (.mv (.t 20))) (.c (.q 114 [(112, false)] (.not (.t 113))) (.c (.q 115 [] (.pick (.t 112) (.c (.bool true)) (.t 114))) (.c (.q 116 [] (.mv (.t 115))) (.c (.q 117 [(116, false)] (.mv (.t 6))) (.c (.q 118 [(116, false)] (.lens (.t 117))) (.c (.q 119 [(116, false)] (.mv (.t 19))) (.c (.q 120 [(116, false)] (.bin .rem (.t 118) (.t 119))) (.c (.q 121 [(116, false)] (.bin .neq (.t 120) (.c (.int .i64 0)))) (.c (.q 122 [] (.pick (.t 116) (.c (.bool true)) (.t 121))) .nil)))))))))))))) t11_15)
def t11_16 := b11_16
theorem u11_16 : vcK P t11_16 k e w = vcK P b11_16 k e w := rfl
abbrev b11_17 : X := (.seq (.reg [1, 6, 16, 19, 20, 86, 87, 88] (.c (.q 106 [] (.mv (.t 15))) (.c (.e (some 107) [] (.call false 111 [(.t 106)])) (.c (.q 105 [] (.mv (.t 107))) (.c (.q 108 [] (.ext 0 (.t 105))) (.c (.q 109 [] (.ext 1 (.t 105))) (.c (.q 19 [] (.mv (.t 108))) (.c (.q 20 [] (.mv (.t 109))) .nil)))))))) t11_16)
def t11_17 := b11_17
theorem u11_17 : vcK P t11_17 k e w = vcK P b11_17 k e w := rfl
abbrev b11_18 : X := (.seq (.seq (.reg [1, 6, 15, 16, 86, 87, 88, 92, 93, 94] (.c (.q 92 [] (.mv (.t 6))) (.c (.q 93 [] (.lens (.t 92))) (.c (.q 94 [] (.mv (.c (.int .i64 0)))) .nil)))) t11_14) t11_17)
def t11_18 := b11_18
theorem u11_18 : vcK P t11_18 k e w = vcK P b11_18 k e w := rfl
abbrev b11_19 : X := (.seq (.reg [1, 6, 15, 16, 86, 87, 88] (.c (.q 16 [] (.mv (.c (.bool false)))) .nil)) t11_18)
def t11_19 := b11_19
theorem u11_19 : vcK P t11_19 k e w = vcK P b11_19 k e w := rfl
abbrev b11_20 : X := (.reg [1, 6, 86, 87, 88] (.c (.q 123 [] (.bin .add (.t 88) (.c (.int .i64 1)))) (.c (.q 88 [] (.mv (.t 123))) .nil)))
def t11_20 := b11_20
theorem u11_20 : vcK P t11_20 k e w = vcK P b11_20 k e w := rfl
abbrev b11_21 : X := (.seq (.blk 3 (.seq (.reg [1, 6, 15, 86, 87, 88] (.c (.q 90 [] (.ia 1 (.t 86) (.t 88))) (.c (.q 91 [] (.ld (.t 90))) (.c (.q 15 [] (.mv (.t 91))) .nil)))) t11_19)) t11_20)
def t11_21 := b11_21
theorem u11_21 : vcK P t11_21 k e w = vcK P b11_21 k e w := rfl
abbrev b11_22 : X := (.seq (.cond (.t 89) .skip (.exit 2)) t11_21)
def t11_22 := b11_22
theorem u11_22 : vcK P t11_22 k e w = vcK P b11_22 k e w := rfl
abbrev b11_23 : X := (.seq (.reg [1, 6, 86, 87, 88, 89] (.c (.q 89 [] (.bin .lss (.t 88) (.t 87))) .nil)) t11_22)
def t11_23 := b11_23
theorem u11_23 : vcK P t11_23 k e w = vcK P b11_23 k e w := rfl
abbrev b11_24 : X := (.blk 2 (.loop [88] [1, 6, 86, 87] t11_23))
def t11_24 := b11_24
theorem u11_24 : vcK P t11_24 k e w = vcK P b11_24 k e w := rfl
abbrev b11_25 : X := (.seq (.reg [1, 6, 86, 87, 88] (.c (.q 86 [] (.mv (.t 5))) (.c (.q 87 [] (.lens (.t 86))) (.c (.q 88 [] (.mv (.c (.int .i64 0)))) .nil)))) t11_24)
def t11_25 := b11_25
theorem u11_25 : vcK P t11_25 k e w = vcK P b11_25 k e w := rfl
abbrev b11_26 : X := (.seq (.seq (.reg [1, 5, 6, 85] (.c (.q 73 [] (.mv (.t 11))) (.c (.q 74 [] (.not (.t 73))) (.c (.q 75 [] (.mv (.t 74))) (.c (.q 76 [(75, false)] (.mv (.t 10))) (.c (.q 77 [(75, false)] (.not (.t 76))) (.c (.q 78 [] (.pick (.t 75) (.c (.bool true)) (.t 77))) (.c (.q 79 [] (.mv (.t 78))) (.c (.q 80 [(79, false)] (.mv (.t 12))) (.c (.q 81 [(79, false)] (.mv (.t 6))) (.c (.q 82 [(79, false)] (.lens (.t 81))) (.c (.q 83 [(79, false)] (.bin .rem (.t 80) (.t 82))) (.c (.q 84 [(79, false)] (.bin .neq (.t 83) (.c (.int .i64 0)))) (.c (.q 85 [] (.pick (.t 79) (.c (.bool true)) (.t 84))) .nil)))))))))))))) t11_8) t11_25)
def t11_26 := b11_26
theorem u11_26 : vcK P t11_26 k e w = vcK P b11_26 k e w := rfl
abbrev b11_27 : X := (.seq (.seq (.reg [1, 5, 6, 10, 11, 12, 13] (.c (.q 13 [] (.mv (.c (.int .i64 2)))) .nil)) t11_7) t11_26)
def t11_27 := b11_27
theorem u11_27 : vcK P t11_27 k e w = vcK P b11_27 k e w := rfl
abbrev b11_28 : X := (.seq (.reg [1, 5, 6, 10, 11, 12] (.c (.q 12 [] (.mv (.c (.int .i64 1)))) .nil)) t11_27)
def t11_28 := b11_28
theorem u11_28 : vcK P t11_28 k e w = vcK P b11_28 k e w := rfl
abbrev b11_29 : X := (.cond (.t 56) (.seq (.reg [1, 5, 6, 10, 11] (.c (.q 58 [] (.mv (.t 6))) (.c (.e (some 59) [] (.call false 110 [(.t 58)])) (.c (.q 57 [] (.mv (.t 59))) (.c (.q 60 [] (.ext 0 (.t 57))) (.c (.q 61 [] (.ext 1 (.t 57))) (.c (.q 10 [] (.mv (.t 60))) (.c (.q 11 [] (.mv (.t 61))) .nil)))))))) t11_28) .skip)
def t11_29 := b11_29
theorem u11_29 : vcK P t11_29 k e w = vcK P b11_29 k e w := rfl
abbrev b11_30 : X := (.seq (.reg [4] (.c (.q 138 [] (.mv (.t 23))) (.c (.q 139 [] (.mv (.t 25))) (.c (.q 140 [] (.beq false (.t 138) (.t 139))) (.c (.q 141 [] (.mv (.t 140))) (.c (.q 142 [(141, true)] (.mv (.t 22))) (.c (.q 143 [(141, true)] (.mv (.t 24))) (.c (.q 144 [(141, true)] (.beq false (.t 142) (.t 143))) (.c (.q 145 [] (.pick (.t 141) (.t 144) (.c (.bool false)))) (.c (.q 146 [] (.mv (.t 145))) (.c (.q 147 [(146, true)] (.mv (.t 26))) (.c (.e (some 148) [(146, true)] (.call false 115 [(.t 147)])) (.c (.q 149 [(146, true)] (.mv (.t 26))) (.c (.e (some 150) [(146, true)] (.call false 116 [(.t 149)])) (.c (.q 151 [(146, true)] (.beq false (.t 148) (.t 150))) (.c (.q 152 [] (.pick (.t 146) (.t 151) (.c (.bool false)))) (.c (.q 4 [] (.mv (.t 152))) .nil))))))))))))))))) .ret)
def t11_30 := b11_30
theorem u11_30 : vcK P t11_30 k e w = vcK P b11_30 k e w := rfl
abbrev b11_31 : X := (.seq (.reg [22, 23, 24, 25, 26] (.c (.q 136 [] (.mv (.t 1))) (.c (.e (some 137) [] (.call false 114 [(.t 136)])) (.c (.q 26 [] (.mv (.t 137))) .nil)))) t11_30)
def t11_31 := b11_31
theorem u11_31 : vcK P t11_31 k e w = vcK P b11_31 k e w := rfl
abbrev b11_32 : X := (.seq (.reg [1, 22, 23, 24, 25] (.c (.q 132 [] (.mv (.t 21))) (.c (.e (some 133) [] (.call false 113 [(.t 132)])) (.c (.q 131 [] (.mv (.t 133))) (.c (.q 134 [] (.ext 0 (.t 131))) (.c (.q 135 [] (.ext 1 (.t 131))) (.c (.q 24 [] (.mv (.t 134))) (.c (.q 25 [] (.mv (.t 135))) .nil)))))))) t11_31)
def t11_32 := b11_32
theorem u11_32 : vcK P t11_32 k e w = vcK P b11_32 k e w := rfl
abbrev b11_33 : X := (.seq (.reg [1, 21, 22, 23] (.c (.q 127 [] (.mv (.t 21))) (.c (.e (some 128) [] (.call false 110 [(.t 127)])) (.c (.q 126 [] (.mv (.t 128))) (.c (.q 129 [] (.ext 0 (.t 126))) (.c (.q 130 [] (.ext 1 (.t 126))) (.c (.q 22 [] (.mv (.t 129))) (.c (.q 23 [] (.mv (.t 130))) .nil)))))))) t11_32)
def t11_33 := b11_33
theorem u11_33 : vcK P t11_33 k e w = vcK P b11_33 k e w := rfl
abbrev b11_34 : X := (.seq (.reg [1, 21] (.c (.q 124 [] (.mv (.t 1))) (.c (.e (some 125) [] (.call false 112 [(.t 124)])) (.c (.q 21 [] (.mv (.t 125))) .nil)))) t11_33)
def t11_34 := b11_34
theorem u11_34 : vcK P t11_34 k e w = vcK P b11_34 k e w := rfl
abbrev b11_35 : X := (.seq (.seq (.reg [1, 5, 6, 56] (.c (.q 51 [] (.mv (.t 7))) (.c (.q 52 [] (.mv (.t 51))) (.c (.q 53 [(52, true)] (.mv (.t 6))) (.c (.q 54 [(52, true)] (.lens (.t 53))) (.c (.q 55 [(52, true)] (.bin .leq (.t 54) (.c (.int .i64 130)))) (.c (.q 56 [] (.pick (.t 52) (.t 55) (.c (.bool false)))) .nil))))))) t11_29) t11_34)
def t11_35 := b11_35
theorem u11_35 : vcK P t11_35 k e w = vcK P b11_35 k e w := rfl
abbrev b11_36 : X := (.seq (.seq (.reg [1, 5, 6, 7, 50] (.c (.q 42 [] (.mv (.t 7))) (.c (.q 43 [] (.mv (.t 9))) (.c (.q 44 [] (.beq true (.t 42) (.t 43))) (.c (.q 45 [] (.mv (.t 44))) (.c (.q 46 [(45, false)] (.mv (.t 6))) (.c (.q 47 [(45, false)] (.mv (.t 8))) (.c (.e (some 48) [(45, false)] (.call false 23 [(.t 46), (.t 47)])) (.c (.q 49 [(45, false)] (.not (.t 48))) (.c (.q 50 [] (.pick (.t 45) (.c (.bool true)) (.t 49))) .nil)))))))))) t11_2) t11_35)
def t11_36 := b11_36
theorem u11_36 : vcK P t11_36 k e w = vcK P b11_36 k e w := rfl
abbrev b11_37 : X := (.seq (.reg [1, 5, 6, 7, 8, 9] (.c (.q 38 [] (.mv (.t 5))) (.c (.e (some 39) [] (.call false 109 [(.t 38)])) (.c (.q 37 [] (.mv (.t 39))) (.c (.q 40 [] (.ext 0 (.t 37))) (.c (.q 41 [] (.ext 1 (.t 37))) (.c (.q 8 [] (.mv (.t 40))) (.c (.q 9 [] (.mv (.t 41))) .nil)))))))) t11_36)
def t11_37 := b11_37
theorem u11_37 : vcK P t11_37 k e w = vcK P b11_37 k e w := rfl
abbrev b11_38 : X := (.seq (.reg [1, 5, 6, 7] (.c (.q 33 [] (.mv (.t 5))) (.c (.e (some 34) [] (.call false 108 [(.t 33)])) (.c (.q 32 [] (.mv (.t 34))) (.c (.q 35 [] (.ext 0 (.t 32))) (.c (.q 36 [] (.ext 1 (.t 32))) (.c (.q 6 [] (.mv (.t 35))) (.c (.q 7 [] (.mv (.t 36))) .nil)))))))) t11_37)
def t11_38 := b11_38
theorem u11_38 : vcK P t11_38 k e w = vcK P b11_38 k e w := rfl
abbrev b11_39 : X := (.seq (.reg [1, 5] (.c (.q 30 [] (.mv (.t 0))) (.c (.e (some 31) [] (.call false 107 [(.t 30)])) (.c (.q 5 [] (.mv (.t 31))) .nil)))) t11_38)
def t11_39 := b11_39
theorem u11_39 : vcK P t11_39 k e w = vcK P b11_39 k e w := rfl
abbrev b11_40 : X := (.seq (.seq (.reg [0, 1, 29] (.c (.q 27 [] (.mv (.t 0))) (.c (.q 28 [] (.mv (.t 1))) (.c (.e (some 29) [] (.call false 14 [(.t 27), (.t 28)])) .nil)))) t11_1) t11_39)
def t11_40 := b11_40
theorem u11_40 : vcK P t11_40 k e w = vcK P b11_40 k e w := rfl
abbrev b11_0 : X := (.seq (.reg [0, 1] (.c (.q 4 [] (.mv (.c (.bool false)))) .nil)) t11_40)
def x_lFnClosed := b11_0
theorem u11_0 : vcK P x_lFnClosed k e w = vcK P b11_0 k e w := rfl
def r_lFnClosed : List XO := [(.mv (.t 4))]
theorem c_lFnClosed : convF Try.prog [147, 148, 152, 160, 162, 163, 170, 178, 206, 208, 210, 224, 233, 235, 236, 251, 264, 265, 268, 270, 287, 322] Try.f11 [([0, 1], []), ([0, 1, 29], []), ([4], []), ([1, 5], []), ([1, 5, 6, 7], []), ([1, 5, 6, 7, 8, 9], []), ([1, 5, 6, 7, 50], []), ([4], []), ([1, 5, 6, 56], []), ([1, 5, 6, 10, 11], []), ([1, 5, 6, 10, 11, 12], []), ([1, 5, 6, 10, 11, 12, 13], []), ([12, 13], [1, 5, 6, 10, 11]), ([1, 5, 6, 10, 11, 12, 13, 67], []), ([1, 5, 6, 10, 11, 12, 13], []), ([1, 5, 6, 10, 11, 12, 13], []), ([1, 5, 6, 85], []), ([4], []), ([1, 6, 86, 87, 88], []), ([88], [1, 6, 86, 87]), ([1, 6, 86, 87, 88, 89], []), ([1, 6, 15, 86, 87, 88], []), ([1, 6, 15, 16, 86, 87, 88], []), ([1, 6, 15, 16, 86, 87, 88, 92, 93, 94], []), ([16, 94], [1, 6, 15, 86, 87, 88, 92, 93]), ([1, 6, 15, 16, 86, 87, 88, 92, 93, 94, 95], []), ([1, 6, 15, 16, 18, 86, 87, 88, 92, 93, 94], []), ([1, 6, 15, 16, 86, 87, 88, 92, 93, 94], []), ([1, 6, 15, 16, 86, 87, 88, 92, 93, 94], []), ([1, 6, 16, 19, 20, 86, 87, 88], []), ([1, 6, 86, 87, 88, 122], []), ([4], []), ([1, 6, 86, 87, 88], []), ([1, 21], []), ([1, 21, 22, 23], []), ([1, 22, 23, 24, 25], []), ([22, 23, 24, 25, 26], []), ([4], [])] = some (x_lFnClosed, r_lFnClosed) := by kernel_rfl
def us_lFnClosed :=  (aI (aI (aI (aI (aI @u11_0 @u11_1) (aI @u11_2 (aI @u11_3 @u11_4))) (aI (aI @u11_5 @u11_6) (aI @u11_7 (aI @u11_8 @u11_9)))) (aI (aI (aI @u11_10 @u11_11) (aI @u11_12 (aI @u11_13 @u11_14))) (aI (aI @u11_15 @u11_16) (aI @u11_17 (aI @u11_18 @u11_19))))) (aI (aI (aI (aI @u11_20 @u11_21) (aI @u11_22 (aI @u11_23 @u11_24))) (aI (aI @u11_25 @u11_26) (aI @u11_27 (aI @u11_28 @u11_29)))) (aI (aI (aI @u11_30 @u11_31) (aI @u11_32 (aI @u11_33 @u11_34))) (aI (aI @u11_35 (aI @u11_36 @u11_37)) (aI @u11_38 (aI @u11_39 @u11_40))))))
end

theorem sGoodRows_ok (v : Value) (l : List Bs) (hl : l.length ≤ 1000000000) (w : World) (h : Sq fS 1 w v l) : Fn 116 [v] w (fun r _ => r = .bool (decide (IsRows l))) := by
  (refine callsV_of mix Try.func116 c_sGoodRows ?_; simp only [↓vsd, vsn, gW, qd, qv, ev, pick, argE, zipE, ne_eq, eq_self, forall_const, implies_true, if_true, if_false, reduceIte, reduceCtorEq, Nat.reduceEqDiff, Nat.reduceAdd, Nat.reduceLT, ↓us_sGoodRows, r_sGoodRows])
  refine m_call (sl6Rows_ok v l hl _ h) ?_
  rintro _ w1 hx1 rfl
  simp only [↓vsd, vsn, gW, qd, qv, ev, pick, argE, zipE, ne_eq, eq_self, forall_const, implies_true, if_true, if_false, reduceIte, reduceCtorEq, Nat.reduceEqDiff, Nat.reduceAdd, Nat.reduceLT, ↓us_sGoodRows, r_sGoodRows]
  exact hx1
set_option maxHeartbeats 4000000 in
theorem lFnClosed_ok (v u : Value) (code more : List UInt8) (hcl : code.length ≤ 9223372036854775807) (hml : more.length ≤ 9223372036854775807) (w : World) (h : Sq fU 1 w v code) (h' : Sq fU 1 w u more) : Fn 11 [v, u] w (fun r _ => r = .bool true) := by
  (refine callsV_of mix Try.func11 c_lFnClosed ?_; simp only [↓vsd, vsn, gW, qd, qv, ev, pick, argE, zipE, ne_eq, eq_self, forall_const, implies_true, if_true, if_false, reduceIte, reduceCtorEq, Nat.reduceEqDiff, Nat.reduceAdd, Nat.reduceLT, ↓us_lFnClosed, r_lFnClosed])
  refine m_call (lbig_ok v u code more hcl hml _ h h') ?_
  rintro _ w0 hx0 rfl
  simp only [↓vsd, vsn, gW, qd, qv, ev, pick, argE, zipE, ne_eq, eq_self, forall_const, implies_true, if_true, if_false, reduceIte, reduceCtorEq, Nat.reduceEqDiff, Nat.reduceAdd, Nat.reduceLT, ↓us_lFnClosed, r_lFnClosed]
  refine ⟨fun _ => hx0, fun hsm => ?_⟩
  have hlen : code.length ≤ 1048576 ∧ more.length ≤ 1048576 := by omega
  refine m_call (sDrawCloseRows_ok v code hlen.1 _ (h.ext hx0)) ?_
  rintro y w1 hx1 ⟨g, hqg, hgl⟩
  simp only [↓vsd, vsn, gW, qd, qv, ev, pick, argE, zipE, ne_eq, eq_self, forall_const, implies_true, if_true, if_false, reduceIte, reduceCtorEq, Nat.reduceEqDiff, Nat.reduceAdd, Nat.reduceLT, ↓us_lFnClosed, r_lFnClosed]
  refine m_call (iCloseRows_ok y g (by omega) _ hqg) ?_
  rintro _ w2 hx2 ⟨x2, rfl, ho2⟩
  simp only [↓vsd, vsn, gW, qd, qv, ev, pick, argE, zipE, ne_eq, eq_self, forall_const, implies_true, if_true, if_false, reduceIte, reduceCtorEq, Nat.reduceEqDiff, Nat.reduceAdd, Nat.reduceLT, ↓us_lFnClosed, r_lFnClosed]
  refine m_call (sCloseRows_ok y g (by omega) _ (hqg.ext hx2)) ?_
  rintro _ w3 hx3 ⟨x3, rfl, ho3⟩
  have hcll : (closeL g).length ≤ 800 := by
    unfold closeL; split
    · exact genV_len _ _ _
    · simp
  simp only [↓vsd, vsn, gW, qd, qv, ev, pick, argE, zipE, ne_eq, eq_self, forall_const, implies_true, if_true, if_false, reduceIte, reduceCtorEq, Nat.reduceEqDiff, Nat.reduceAdd, Nat.reduceLT, ↓us_lFnClosed, r_lFnClosed]
  refine m_call (lsameTexts_ok x2 x3 _ _ _ (ho2.sq.ext hx3) ho3.sq (by omega)) ?_
  rintro _ w4 hx4 rfl
  have hx04 := (((hx0.trans hx1).trans hx2).trans hx3).trans hx4
  have hq4 := (ho2.sq.ext hx3).ext hx4
  have hg4 := ((hqg.ext hx2).ext hx3).ext hx4
  by_cases hok : CloseOk g
  · obtain ⟨h0, hr, hgo⟩ := hok
    have hok : CloseOk g := ⟨h0, hr, hgo⟩
    have hst := hr.stage h0
    have hgn := hr.n
    have e1 : closeL g = genV g (roundsL (stgL g)) 800 := by rw [closeL, if_pos ⟨h0, hr⟩]
    rw [e1] at hq4 hcll
    have hG := genV_grp hst hgn hgo
    have hrise := genV_rise g (roundsL (stgL g)) 800
    have hgrp := hG.grpL hrise
    have hfact := hG.fact
    have hord : ∀ a ∈ g, ∀ k, IsOrd a k → (genV g (roundsL (stgL g)) 800).length % k = 0 := fun a ha k hO => hG.ord ((genV_mem hgo a).2 (gen_has hgn hgo ha)) hO
    have hhas : ∀ a ∈ g, a ∈ genV g (roundsL (stgL g)) 800 := fun a ha => (genV_mem hgo a).2 (gen_has hgn hgo ha)
    have hpos := hG.pos
    have hLR : IsRows (genV g (roundsL (stgL g)) 800) := ⟨fun r hm => by
      have a1 := hG.rows r hm
      have a2 := hG.rows _ (getD_mem [] hpos)
      exact ⟨a1.1, by rw [a1.2, a2.2]⟩, hcll⟩
    have hgb := hG.rows
    generalize genV g (roundsL (stgL g)) 800 = L at *
    have a4 := hg4.at0 [] h0
    have hfl := factL_le (stgL g) (by omega)
    simp only [↓vsd, vsn, gW, qd, qv, ev, pick, argE, zipE, ne_eq, eq_self, forall_const, implies_true, if_true, if_false, reduceIte, reduceCtorEq, Nat.reduceEqDiff, Nat.reduceAdd, Nat.reduceLT, ↓us_lFnClosed, r_lFnClosed, hok, hq4.facts]
    refine ⟨fun hsmall => ?_, fun hbig => ?_⟩
    · refine m_call (iIsGroup_ok x2 L (by omega) _ (by first | exact hq4 | exact hq4.ext (dr (Ext.refl w4)))) ?_
      rintro _ w5 hx5 hr5
      have hx5 : Ext w4 w5 := by first | exact hx5 | exact ud hx5 | exact ud (ud hx5)
      have e5 : isGrV L = .tuple ⟨[.bool true, .bool true]⟩ := by unfold isGrV; simp only [hLR, hrise, hgrp, and_self, decide_true]
      rw [e5] at hr5
      subst hr5
      have hg5 := hg4.ext hx5
      have hq5 := hq4.ext hx5
      have a5 := hg5.at0 [] h0
      have hx05 := hx04.trans hx5
      have hs5 : (g.getD 0 []).length = stgL g := rfl
      have hn8 : stgL g ≤ 8 := hst.2
      simp only [↓vsd, vsn, gW, qd, qv, ev, pick, argE, zipE, ne_eq, eq_self, forall_const, implies_true, if_true, if_false, reduceIte, reduceCtorEq, Nat.reduceEqDiff, Nat.reduceAdd, Nat.reduceLT, ↓us_lFnClosed, r_lFnClosed, hg5.facts, a5, hs5]
      refine m_upto (stgL g - 1) (fun j vs w' => vs = [.int .i64 (factL (j + 1) : Nat), .int .i64 ((j + 2 : Nat) : Int)] ∧ Ext w5 w') ⟨rfl, Ext.refl _⟩ ?_
      rintro j vs w6 hj ⟨rfl, hx6⟩
      have hg6 := hg5.ext hx6
      have hq6 := hq5.ext hx6
      have a6 := hg6.at0 [] h0
      have hfj := factL_le (j + 1) (by omega)
      by_cases hlt : j + 2 ≤ stgL g
      · have hltI : ((j + 2 : Nat) : Int) ≤ (stgL g : Nat) := by omega
        have hfj2 := factL_le (j + 2) (by omega)
        have em : ((factL (j + 1) : Nat) : Int) * ((j + 2 : Nat) : Int) = (factL (j + 2) : Nat) := by rw [show factL (j + 2) = (j + 2) * factL (j + 1) from rfl, Int.natCast_mul, Int.mul_comm]
        have e3 : ((j + 2 : Nat) : Int) + 1 = ((j + 1 + 2 : Nat) : Int) := by omega
        simp only [↓vsd, vsn, gW, qd, qv, ev, pick, argE, zipE, ne_eq, eq_self, forall_const, implies_true, if_true, if_false, reduceIte, reduceCtorEq, Nat.reduceEqDiff, Nat.reduceAdd, Nat.reduceLT, ↓us_lFnClosed, r_lFnClosed, hg6.facts, a6, hs5, hltI, em, e3]
        exact ⟨by omega, inR_i64 (by omega), inR_i64 (by omega), UpTo.next (by omega) ⟨rfl, by first | exact hx6 | exact dr hx6⟩⟩
      · obtain rfl : j = stgL g - 1 := by omega
        have hltI : ¬ ((stgL g - 1 + 2 : Nat) : Int) ≤ (stgL g : Nat) := by omega
        have ej : stgL g - 1 + 1 = stgL g := by omega
        rw [ej]
        have hfI : ((factL (stgL g) : Nat) : Int).tmod ((L.length : Nat) : Int) = 0 := by
          show (((factL (stgL g)) % L.length : Nat) : Int) = 0
          rw [hfact]; rfl
        have hposI : ¬ ((L.length : Nat) : Int) = 0 := by omega
        simp only [↓vsd, vsn, gW, qd, qv, ev, pick, argE, zipE, ne_eq, eq_self, forall_const, implies_true, if_true, if_false, reduceIte, reduceCtorEq, Nat.reduceEqDiff, Nat.reduceAdd, Nat.reduceLT, ↓us_lFnClosed, r_lFnClosed, hg6.facts, a6, hs5, hltI, hq6.facts, hfI]
        refine ⟨by omega, hposI, ?_⟩
        refine m_upto g.length (fun k vs w' => vs = [.int .i64 k] ∧ Ext w6 w') ⟨rfl, by first | exact Ext.refl _ | exact dr (Ext.refl _)⟩ ?_
        rintro k vs w7 hk ⟨rfl, hx7⟩
        have hg7 := hg6.ext hx7
        have hq7 := hq6.ext hx7
        by_cases hltk : k < g.length
        · have hkI : (k : Int) < g.length := by omega
          have hkJ : ¬ (g.length : Int) ≤ k := by omega
          have a7 := hg7.at1 [] hltk
          have hm := getD_mem [] hltk
          have hrow := hgn _ hm
          have hha := hhas _ hm
          obtain ⟨o, hO⟩ := ord_exists hrow.1
          have hor := hord _ hm o hO
          generalize g.getD k [] = r at *
          simp only [↓vsd, vsn, gW, qd, qv, ev, pick, argE, zipE, ne_eq, eq_self, forall_const, implies_true, if_true, if_false, reduceIte, reduceCtorEq, Nat.reduceEqDiff, Nat.reduceAdd, Nat.reduceLT, ↓us_lFnClosed, r_lFnClosed, hkI, hkJ, hg7.facts, a7, hq7.facts]
          refine ⟨by omega, ?_⟩
          refine m_upto L.length (fun j vs w' => vs = [.bool (decide (r ∈ L.take j)), .int .i64 j] ∧ Ext w6 w') ⟨by simp, by first | exact hx7 | exact dr hx7⟩ ?_
          rintro j vs w8 hj ⟨rfl, hx8⟩
          have hq8 := hq6.ext hx8
          by_cases hltj : j < L.length
          · have hjI : (j : Int) < L.length := by omega
            have hjJ : ¬ (L.length : Int) ≤ j := by omega
            have a8 := hq8.at1 [] hltj
            have hmt : decide (r ∈ L.take (j + 1)) = (decide (r ∈ L.take j) || decide (L.getD j [] = r)) := by
              rw [← Bool.decide_or]
              refine decide_eq_decide.2 ?_
              rw [List.take_add_one, List.getElem?_eq_getElem hltj, List.mem_append, List.getD_eq_getElem?_getD, List.getElem?_eq_getElem hltj]
              simp [eq_comm]
            generalize L.getD j [] = x at *
            simp only [↓vsd, vsn, gW, qd, qv, ev, pick, argE, zipE, ne_eq, eq_self, forall_const, implies_true, if_true, if_false, reduceIte, reduceCtorEq, Nat.reduceEqDiff, Nat.reduceAdd, Nat.reduceLT, ↓us_lFnClosed, r_lFnClosed, hjI, hjJ, hq8.facts, a8]
            exact ⟨by omega, inR_i64 (by omega), UpTo.next hltj ⟨by rw [hmt]; rfl, by first | exact hx8 | exact dr hx8⟩⟩
          · obtain rfl : j = L.length := by omega
            have hjI : ¬ (L.length : Int) < L.length := by omega
            rw [List.take_length]
            have hD := decide_eq_true hha
            simp only [↓vsd, vsn, gW, qd, qv, ev, pick, argE, zipE, ne_eq, eq_self, forall_const, implies_true, if_true, if_false, reduceIte, reduceCtorEq, Nat.reduceEqDiff, Nat.reduceAdd, Nat.reduceLT, ↓us_lFnClosed, r_lFnClosed, hjI, hD]
            refine m_call (iOrderOf_ok r o (fun _ => hO) _) ?_
            rintro _ w9 hx9 hr9
            rw [ordV, if_pos hrow.1] at hr9
            subst hr9
            have hx69 := hx8.trans hx9
            have hq9 := hq6.ext hx69
            have hoI : ((L.length : Nat) : Int).tmod ((o : Nat) : Int) = 0 := by
              show ((L.length % o : Nat) : Int) = 0
              rw [hor]; rfl
            have ho0 : ¬ ((o : Nat) : Int) = 0 := by have := hO.1; omega
            simp only [↓vsd, vsn, gW, qd, qv, ev, pick, argE, zipE, ne_eq, eq_self, forall_const, implies_true, if_true, if_false, reduceIte, reduceCtorEq, Nat.reduceEqDiff, Nat.reduceAdd, Nat.reduceLT, ↓us_lFnClosed, r_lFnClosed, hD, hq9.facts, hoI]
            exact ⟨ho0, inR_i64 (by omega), UpTo.next hltk ⟨rfl, by first | exact hx69 | exact dr hx69⟩⟩
        · obtain rfl : k = g.length := by omega
          have hkI : ¬ (g.length : Int) < g.length := by omega
          have hxL := ((hx05.trans hx6).trans hx7)
          simp only [↓vsd, vsn, gW, qd, qv, ev, pick, argE, zipE, ne_eq, eq_self, forall_const, implies_true, if_true, if_false, reduceIte, reduceCtorEq, Nat.reduceEqDiff, Nat.reduceAdd, Nat.reduceLT, ↓us_lFnClosed, r_lFnClosed, hkI]
          refine m_call (sDrawIsGroup_ok u more hlen.2 _ (h'.ext hxL)) ?_
          rintro ya wa hxa ⟨la, hqa, hla⟩
          simp only [↓vsd, vsn, gW, qd, qv, ev, pick, argE, zipE, ne_eq, eq_self, forall_const, implies_true, if_true, if_false, reduceIte, reduceCtorEq, Nat.reduceEqDiff, Nat.reduceAdd, Nat.reduceLT, ↓us_lFnClosed, r_lFnClosed]
          refine m_call (iIsGroup_ok ya la (by omega) _ hqa) ?_
          rintro _ wb hxb rfl
          rw [isGrV]
          simp only [↓vsd, vsn, gW, qd, qv, ev, pick, argE, zipE, ne_eq, eq_self, forall_const, implies_true, if_true, if_false, reduceIte, reduceCtorEq, Nat.reduceEqDiff, Nat.reduceAdd, Nat.reduceLT, ↓us_lFnClosed, r_lFnClosed]
          refine m_call (sIsGroup_ok ya la (by omega) _ (hqa.ext hxb)) ?_
          rintro _ wc hxc rfl
          rw [isGrV]
          have hxa4 := ((hxL.trans hxa).trans hxb).trans hxc
          simp only [↓vsd, vsn, gW, qd, qv, ev, pick, argE, zipE, ne_eq, eq_self, forall_const, implies_true, if_true, if_false, reduceIte, reduceCtorEq, Nat.reduceEqDiff, Nat.reduceAdd, Nat.reduceLT, ↓us_lFnClosed, r_lFnClosed]
          refine m_call (sDrawGoodRows_ok u more hlen.2 _ (h'.ext hxa4)) ?_
          rintro yd wd hxd ⟨ld, hqd, hld⟩
          simp only [↓vsd, vsn, gW, qd, qv, ev, pick, argE, zipE, ne_eq, eq_self, forall_const, implies_true, if_true, if_false, reduceIte, reduceCtorEq, Nat.reduceEqDiff, Nat.reduceAdd, Nat.reduceLT, ↓us_lFnClosed, r_lFnClosed]
          refine m_call (iGoodRows_ok yd ld (by omega) _ (by first | exact hqd | exact hqd.ext (dr (Ext.refl wd)))) ?_
          rintro _ we hxe rfl
          have hxe : Ext wd we := by first | exact hxe | exact ud hxe | exact ud (ud hxe)
          simp only [↓vsd, vsn, gW, qd, qv, ev, pick, argE, zipE, ne_eq, eq_self, forall_const, implies_true, if_true, if_false, reduceIte, reduceCtorEq, Nat.reduceEqDiff, Nat.reduceAdd, Nat.reduceLT, ↓us_lFnClosed, r_lFnClosed]
          refine m_call (sGoodRows_ok yd ld (by omega) _ (by first | exact hqd.ext hxe | exact hqd.ext (dr hxe))) ?_
          rintro _ wf hxf rfl
          have hxf : Ext we wf := by first | exact hxf | exact ud hxf | exact ud (ud hxf)
          simp only [↓vsd, vsn, gW, qd, qv, ev, pick, argE, zipE, ne_eq, eq_self, forall_const, implies_true, if_true, if_false, reduceIte, reduceCtorEq, Nat.reduceEqDiff, Nat.reduceAdd, Nat.reduceLT, ↓us_lFnClosed, r_lFnClosed]
          exact ((hxa4.trans hxd).trans hxe).trans hxf
    · have hxL := hx04
      refine m_call (sDrawIsGroup_ok u more hlen.2 _ (h'.ext hxL)) ?_
      rintro ya wa hxa ⟨la, hqa, hla⟩
      simp only [↓vsd, vsn, gW, qd, qv, ev, pick, argE, zipE, ne_eq, eq_self, forall_const, implies_true, if_true, if_false, reduceIte, reduceCtorEq, Nat.reduceEqDiff, Nat.reduceAdd, Nat.reduceLT, ↓us_lFnClosed, r_lFnClosed]
      refine m_call (iIsGroup_ok ya la (by omega) _ hqa) ?_
      rintro _ wb hxb rfl
      rw [isGrV]
      simp only [↓vsd, vsn, gW, qd, qv, ev, pick, argE, zipE, ne_eq, eq_self, forall_const, implies_true, if_true, if_false, reduceIte, reduceCtorEq, Nat.reduceEqDiff, Nat.reduceAdd, Nat.reduceLT, ↓us_lFnClosed, r_lFnClosed]
      refine m_call (sIsGroup_ok ya la (by omega) _ (hqa.ext hxb)) ?_
      rintro _ wc hxc rfl
      rw [isGrV]
      have hxa4 := ((hxL.trans hxa).trans hxb).trans hxc
      simp only [↓vsd, vsn, gW, qd, qv, ev, pick, argE, zipE, ne_eq, eq_self, forall_const, implies_true, if_true, if_false, reduceIte, reduceCtorEq, Nat.reduceEqDiff, Nat.reduceAdd, Nat.reduceLT, ↓us_lFnClosed, r_lFnClosed]
      refine m_call (sDrawGoodRows_ok u more hlen.2 _ (h'.ext hxa4)) ?_
      rintro yd wd hxd ⟨ld, hqd, hld⟩
      simp only [↓vsd, vsn, gW, qd, qv, ev, pick, argE, zipE, ne_eq, eq_self, forall_const, implies_true, if_true, if_false, reduceIte, reduceCtorEq, Nat.reduceEqDiff, Nat.reduceAdd, Nat.reduceLT, ↓us_lFnClosed, r_lFnClosed]
      refine m_call (iGoodRows_ok yd ld (by omega) _ (by first | exact hqd | exact hqd.ext (dr (Ext.refl wd)))) ?_
      rintro _ we hxe rfl
      have hxe : Ext wd we := by first | exact hxe | exact ud hxe | exact ud (ud hxe)
      simp only [↓vsd, vsn, gW, qd, qv, ev, pick, argE, zipE, ne_eq, eq_self, forall_const, implies_true, if_true, if_false, reduceIte, reduceCtorEq, Nat.reduceEqDiff, Nat.reduceAdd, Nat.reduceLT, ↓us_lFnClosed, r_lFnClosed]
      refine m_call (sGoodRows_ok yd ld (by omega) _ (by first | exact hqd.ext hxe | exact hqd.ext (dr hxe))) ?_
      rintro _ wf hxf rfl
      have hxf : Ext we wf := by first | exact hxf | exact ud hxf | exact ud (ud hxf)
      simp only [↓vsd, vsn, gW, qd, qv, ev, pick, argE, zipE, ne_eq, eq_self, forall_const, implies_true, if_true, if_false, reduceIte, reduceCtorEq, Nat.reduceEqDiff, Nat.reduceAdd, Nat.reduceLT, ↓us_lFnClosed, r_lFnClosed]
      exact ((hxa4.trans hxd).trans hxe).trans hxf
  · have hxL := hx04
    simp only [↓vsd, vsn, gW, qd, qv, ev, pick, argE, zipE, ne_eq, eq_self, forall_const, implies_true, if_true, if_false, reduceIte, reduceCtorEq, Nat.reduceEqDiff, Nat.reduceAdd, Nat.reduceLT, ↓us_lFnClosed, r_lFnClosed, hok]
    refine m_call (sDrawIsGroup_ok u more hlen.2 _ (h'.ext hxL)) ?_
    rintro ya wa hxa ⟨la, hqa, hla⟩
    simp only [↓vsd, vsn, gW, qd, qv, ev, pick, argE, zipE, ne_eq, eq_self, forall_const, implies_true, if_true, if_false, reduceIte, reduceCtorEq, Nat.reduceEqDiff, Nat.reduceAdd, Nat.reduceLT, ↓us_lFnClosed, r_lFnClosed]
    refine m_call (iIsGroup_ok ya la (by omega) _ hqa) ?_
    rintro _ wb hxb rfl
    rw [isGrV]
    simp only [↓vsd, vsn, gW, qd, qv, ev, pick, argE, zipE, ne_eq, eq_self, forall_const, implies_true, if_true, if_false, reduceIte, reduceCtorEq, Nat.reduceEqDiff, Nat.reduceAdd, Nat.reduceLT, ↓us_lFnClosed, r_lFnClosed]
    refine m_call (sIsGroup_ok ya la (by omega) _ (hqa.ext hxb)) ?_
    rintro _ wc hxc rfl
    rw [isGrV]
    have hxa4 := ((hxL.trans hxa).trans hxb).trans hxc
    simp only [↓vsd, vsn, gW, qd, qv, ev, pick, argE, zipE, ne_eq, eq_self, forall_const, implies_true, if_true, if_false, reduceIte, reduceCtorEq, Nat.reduceEqDiff, Nat.reduceAdd, Nat.reduceLT, ↓us_lFnClosed, r_lFnClosed]
    refine m_call (sDrawGoodRows_ok u more hlen.2 _ (h'.ext hxa4)) ?_
    rintro yd wd hxd ⟨ld, hqd, hld⟩
    simp only [↓vsd, vsn, gW, qd, qv, ev, pick, argE, zipE, ne_eq, eq_self, forall_const, implies_true, if_true, if_false, reduceIte, reduceCtorEq, Nat.reduceEqDiff, Nat.reduceAdd, Nat.reduceLT, ↓us_lFnClosed, r_lFnClosed]
    refine m_call (iGoodRows_ok yd ld (by omega) _ (by first | exact hqd | exact hqd.ext (dr (Ext.refl wd)))) ?_
    rintro _ we hxe rfl
    have hxe : Ext wd we := by first | exact hxe | exact ud hxe | exact ud (ud hxe)
    simp only [↓vsd, vsn, gW, qd, qv, ev, pick, argE, zipE, ne_eq, eq_self, forall_const, implies_true, if_true, if_false, reduceIte, reduceCtorEq, Nat.reduceEqDiff, Nat.reduceAdd, Nat.reduceLT, ↓us_lFnClosed, r_lFnClosed]
    refine m_call (sGoodRows_ok yd ld (by omega) _ (by first | exact hqd.ext hxe | exact hqd.ext (dr hxe))) ?_
    rintro _ wf hxf rfl
    have hxf : Ext we wf := by first | exact hxf | exact ud hxf | exact ud (ud hxf)
    simp only [↓vsd, vsn, gW, qd, qv, ev, pick, argE, zipE, ne_eq, eq_self, forall_const, implies_true, if_true, if_false, reduceIte, reduceCtorEq, Nat.reduceEqDiff, Nat.reduceAdd, Nat.reduceLT, ↓us_lFnClosed, r_lFnClosed]
    exact ((hxa4.trans hxd).trans hxe).trans hxf
end Go.Proofs.Ytnincmnkdjlndaa
