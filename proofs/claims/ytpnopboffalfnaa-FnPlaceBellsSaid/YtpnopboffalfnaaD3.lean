/-
  Products, inverses, powers and rounds of rows, as program and reference compute them.
  Conditions: none.
-/
import Derived.Test.YtpnopboffalfnaaA10
import Derived.Test.YtpnopboffalfnaaD2
set_option linter.unusedSimpArgs false
set_option linter.unusedVariables false
set_option linter.defProp false
namespace Go.Proofs.Ytpnopboffalfnaa
open Go Go.RowKit
section
variable (P : Program) (k : KT) (e : Env) (w : World)
abbrev b40_1 : X := (.cond (.t 15) (.seq (.reg [4, 5] (.c (.q 4 [] (.mv (.s []))) (.c (.q 5 [] (.mv (.c (.bool false)))) .nil))) .ret) .skip)
def t40_1 := b40_1
theorem u40_1 : vcK P t40_1 k e w = vcK P b40_1 k e w := rfl
abbrev b40_2 : X := (.seq (.reg [4, 5] (.c (.q 16 [] (.mv (.t 0))) (.c (.q 17 [] (.mv (.t 1))) (.c (.e (some 18) [] (.call false 183 [(.t 16), (.t 17)])) (.c (.q 4 [] (.mv (.t 18))) (.c (.q 5 [] (.mv (.c (.bool true)))) .nil)))))) .ret)
def t40_2 := b40_2
theorem u40_2 : vcK P t40_2 k e w = vcK P b40_2 k e w := rfl
abbrev b40_3 : X := (.seq (.seq (.reg [0, 1, 15] (.c (.q 6 [] (.mv (.t 0))) (.c (.e (some 7) [] (.call false 181 [(.t 6)])) (.c (.q 8 [] (.not (.t 7))) (.c (.q 9 [] (.mv (.t 8))) (.c (.q 10 [(9, false)] (.mv (.t 0))) (.c (.q 11 [(9, false)] (.len (.t 10))) (.c (.q 12 [(9, false)] (.mv (.t 1))) (.c (.e (some 13) [(9, false)] (.call false 179 [(.t 11), (.t 12)])) (.c (.q 14 [(9, false)] (.not (.t 13))) (.c (.q 15 [] (.pick (.t 9) (.c (.bool true)) (.t 14))) .nil))))))))))) t40_1) t40_2)
def t40_3 := b40_3
theorem u40_3 : vcK P t40_3 k e w = vcK P b40_3 k e w := rfl
abbrev b40_0 : X := (.seq (.reg [0, 1] (.c (.q 4 [] (.mv (.s []))) (.c (.q 5 [] (.mv (.c (.bool false)))) .nil))) t40_3)
def x_iTimes := b40_0
theorem u40_0 : vcK P x_iTimes k e w = vcK P b40_0 k e w := rfl
def r_iTimes : List XO := [(.mv (.t 4)), (.mv (.t 5))]
theorem c_iTimes : convF Try.prog [169, 170, 207, 208, 210, 227, 232, 233, 255, 259, 268, 269, 270, 280, 281, 296, 299, 306, 307, 309] Try.f40 [([0, 1], []), ([0, 1, 15], []), ([4, 5], []), ([4, 5], [])] = some (x_iTimes, r_iTimes) := by kernel_rfl
def us_iTimes := aI @u40_0 (aI @u40_1 (aI @u40_2 @u40_3))
abbrev b86_1 : X := (.cond (.t 9) (.seq (.reg [4, 5] (.c (.q 4 [] (.mv (.s []))) (.c (.q 5 [] (.mv (.c (.bool false)))) .nil))) .ret) .skip)
def t86_1 := b86_1
theorem u86_1 : vcK P t86_1 k e w = vcK P b86_1 k e w := rfl
abbrev b86_2 : X := (.seq (.reg [4, 5] (.c (.q 10 [] (.mv (.t 0))) (.c (.q 11 [] (.mv (.t 1))) (.c (.e (some 12) [] (.call false 222 [(.t 10), (.t 11)])) (.c (.q 4 [] (.mv (.t 12))) (.c (.q 5 [] (.mv (.c (.bool true)))) .nil)))))) .ret)
def t86_2 := b86_2
theorem u86_2 : vcK P t86_2 k e w = vcK P b86_2 k e w := rfl
abbrev b86_3 : X := (.seq (.seq (.reg [0, 1, 9] (.c (.q 6 [] (.mv (.t 0))) (.c (.q 7 [] (.mv (.t 1))) (.c (.e (some 8) [] (.call false 221 [(.t 6), (.t 7)])) (.c (.q 9 [] (.not (.t 8))) .nil))))) t86_1) t86_2)
def t86_3 := b86_3
theorem u86_3 : vcK P t86_3 k e w = vcK P b86_3 k e w := rfl
abbrev b86_0 : X := (.seq (.reg [0, 1] (.c (.q 4 [] (.mv (.s []))) (.c (.q 5 [] (.mv (.c (.bool false)))) .nil))) t86_3)
def x_sTimes := b86_0
theorem u86_0 : vcK P x_sTimes k e w = vcK P b86_0 k e w := rfl
def r_sTimes : List XO := [(.mv (.t 4)), (.mv (.t 5))]
theorem c_sTimes : convF Try.prog [169, 170, 207, 208, 210, 227, 232, 233, 255, 259, 268, 269, 270, 280, 281, 296, 299, 306, 307, 309] Try.f86 [([0, 1], []), ([0, 1, 9], []), ([4, 5], []), ([4, 5], [])] = some (x_sTimes, r_sTimes) := by kernel_rfl
def us_sTimes := aI @u86_0 (aI @u86_1 (aI @u86_2 @u86_3))
abbrev b221_1 : X := (.seq (.reg [4] (.c (.q 5 [] (.mv (.t 0))) (.c (.e (some 6) [] (.call false 223 [(.t 5)])) (.c (.q 7 [] (.mv (.t 6))) (.c (.q 8 [(7, true)] (.mv (.t 1))) (.c (.e (some 9) [(7, true)] (.call false 223 [(.t 8)])) (.c (.q 10 [] (.pick (.t 7) (.t 9) (.c (.bool false)))) (.c (.q 11 [] (.mv (.t 10))) (.c (.q 12 [(11, true)] (.mv (.t 0))) (.c (.q 13 [(11, true)] (.len (.t 12))) (.c (.q 14 [(11, true)] (.mv (.t 1))) (.c (.q 15 [(11, true)] (.len (.t 14))) (.c (.q 16 [(11, true)] (.bin .eql (.t 13) (.t 15))) (.c (.q 17 [] (.pick (.t 11) (.t 16) (.c (.bool false)))) (.c (.q 4 [] (.mv (.t 17))) .nil))))))))))))))) .ret)
def t221_1 := b221_1
theorem u221_1 : vcK P t221_1 k e w = vcK P b221_1 k e w := rfl
abbrev b221_0 : X := (.seq (.reg [0, 1] (.c (.q 4 [] (.mv (.c (.bool false)))) .nil)) t221_1)
def x_sl1Two := b221_0
theorem u221_0 : vcK P x_sl1Two k e w = vcK P b221_0 k e w := rfl
def r_sl1Two : List XO := [(.mv (.t 4))]
theorem c_sl1Two : convF Try.prog [169, 170, 207, 208, 210, 227, 232, 233, 255, 259, 268, 269, 270, 280, 281, 296, 299, 306, 307, 309] Try.f221 [([0, 1], []), ([4], [])] = some (x_sl1Two, r_sl1Two) := by kernel_rfl
def us_sl1Two := aI @u221_0 @u221_1
abbrev b182_1 : X := (.reg [0, 3, 9, 10] (.c (.q 13 [] (.mv (.t 3))) (.c (.q 14 [] (.mv (.t 0))) (.c (.q 15 [] (.mv (.t 4))) (.c (.q 16 [] (.idx (.t 14) (.t 15))) (.c (.q 17 [] (.bin .sub (.t 16) (.c (.int .u8 49)))) (.c (.q 18 [] (.mv (.t 4))) (.c (.q 19 [] (.bin .add (.c (.int .i64 49)) (.t 18))) (.c (.q 20 [] (.cvi .u8 (.t 19))) (.c (.q 21 [] (.ia 1 (.t 13) (.t 17))) (.c (.e none [] (.st 1 (.t 21) (.t 20))) .nil)))))))))))
def t182_1 := b182_1
theorem u182_1 : vcK P t182_1 k e w = vcK P b182_1 k e w := rfl
abbrev b182_2 : X := (.reg [0, 3, 9, 10] (.c (.q 22 [] (.bin .add (.t 10) (.c (.int .i64 1)))) (.c (.q 10 [] (.mv (.t 22))) .nil)))
def t182_2 := b182_2
theorem u182_2 : vcK P t182_2 k e w = vcK P b182_2 k e w := rfl
abbrev b182_3 : X := (.seq (.blk 1 (.seq (.reg [0, 3, 4, 9, 10] (.c (.q 12 [] (.mv (.t 10))) (.c (.q 4 [] (.mv (.t 12))) .nil))) t182_1)) t182_2)
def t182_3 := b182_3
theorem u182_3 : vcK P t182_3 k e w = vcK P b182_3 k e w := rfl
abbrev b182_4 : X := (.seq (.cond (.t 11) .skip (.exit 0)) t182_3)
def t182_4 := b182_4
theorem u182_4 : vcK P t182_4 k e w = vcK P b182_4 k e w := rfl
abbrev b182_5 : X := (.seq (.reg [0, 3, 9, 10, 11] (.c (.q 11 [] (.bin .lss (.t 10) (.t 9))) .nil)) t182_4)
def t182_5 := b182_5
theorem u182_5 : vcK P t182_5 k e w = vcK P b182_5 k e w := rfl
abbrev b182_6 : X := (.blk 0 (.loop [10] [0, 3, 9] t182_5))
def t182_6 := b182_6
theorem u182_6 : vcK P t182_6 k e w = vcK P b182_6 k e w := rfl
abbrev b182_7 : X := (.seq (.reg [2] (.c (.q 23 [] (.mv (.t 3))) (.c (.e (some 24) [] (.b2s (.t 23))) (.c (.q 2 [] (.mv (.t 24))) .nil)))) .ret)
def t182_7 := b182_7
theorem u182_7 : vcK P t182_7 k e w = vcK P b182_7 k e w := rfl
abbrev b182_8 : X := (.seq (.seq (.reg [0, 3, 9, 10] (.c (.q 8 [] (.mv (.t 3))) (.c (.q 9 [] (.lens (.t 8))) (.c (.q 10 [] (.mv (.c (.int .i64 0)))) .nil)))) t182_6) t182_7)
def t182_8 := b182_8
theorem u182_8 : vcK P t182_8 k e w = vcK P b182_8 k e w := rfl
abbrev b182_9 : X := (.seq (.reg [0, 3] (.c (.q 5 [] (.mv (.t 0))) (.c (.q 6 [] (.len (.t 5))) (.c (.e (some 7) [] (.msl 39 5 1 1 [(.int .u8 0)] (.t 6) (.t 6))) (.c (.q 3 [] (.mv (.t 7))) .nil))))) t182_8)
def t182_9 := b182_9
theorem u182_9 : vcK P t182_9 k e w = vcK P b182_9 k e w := rfl
abbrev b182_0 : X := (.seq (.reg [0] (.c (.q 2 [] (.mv (.s []))) .nil)) t182_9)
def x_iturned := b182_0
theorem u182_0 : vcK P x_iturned k e w = vcK P b182_0 k e w := rfl
def r_iturned : List XO := [(.mv (.t 2))]
theorem c_iturned : convF Try.prog [169, 170, 207, 208, 210, 227, 232, 233, 255, 259, 268, 269, 270, 280, 281, 296, 299, 306, 307, 309] Try.f182 [([0], []), ([0, 3], []), ([0, 3, 9, 10], []), ([10], [0, 3, 9]), ([0, 3, 9, 10, 11], []), ([0, 3, 4, 9, 10], []), ([0, 3, 9, 10], []), ([0, 3, 9, 10], []), ([2], [])] = some (x_iturned, r_iturned) := by kernel_rfl
def us_iturned := aI @u182_0 (aI @u182_1 (aI @u182_2 (aI @u182_3 (aI @u182_4 (aI @u182_5 (aI @u182_6 (aI @u182_7 (aI @u182_8 @u182_9))))))))
abbrev b305_1 : X := (.cond (.t 10) .skip (.exit 0))
def t305_1 := b305_1
theorem u305_1 : vcK P t305_1 k e w = vcK P b305_1 k e w := rfl
abbrev b305_2 : X := (.reg [0, 3, 4] (.c (.q 11 [] (.mv (.t 4))) (.c (.q 12 [] (.bin .add (.t 11) (.c (.int .i64 1)))) (.c (.q 4 [] (.mv (.t 12))) .nil))))
def t305_2 := b305_2
theorem u305_2 : vcK P t305_2 k e w = vcK P b305_2 k e w := rfl
abbrev b305_3 : X := (.seq (.blk 1 (.reg [0, 3, 4] (.c (.q 13 [] (.mv (.t 3))) (.c (.q 14 [] (.mv (.t 0))) (.c (.q 15 [] (.mv (.t 4))) (.c (.e (some 16) [] (.call false 252 [(.t 14), (.t 15)])) (.c (.q 17 [] (.bin .sub (.t 16) (.c (.int .i64 1)))) (.c (.q 18 [] (.mv (.t 4))) (.c (.q 19 [] (.bin .add (.c (.int .i64 48)) (.t 18))) (.c (.q 20 [] (.cvi .u8 (.t 19))) (.c (.q 21 [] (.ia 1 (.t 13) (.t 17))) (.c (.e none [] (.st 1 (.t 21) (.t 20))) .nil)))))))))))) t305_2)
def t305_3 := b305_3
theorem u305_3 : vcK P t305_3 k e w = vcK P b305_3 k e w := rfl
abbrev b305_4 : X := (.seq (.seq (.reg [0, 3, 4, 10] (.c (.q 7 [] (.mv (.t 4))) (.c (.q 8 [] (.mv (.t 0))) (.c (.q 9 [] (.len (.t 8))) (.c (.q 10 [] (.bin .leq (.t 7) (.t 9))) .nil))))) t305_1) t305_3)
def t305_4 := b305_4
theorem u305_4 : vcK P t305_4 k e w = vcK P b305_4 k e w := rfl
abbrev b305_5 : X := (.blk 0 (.loop [4] [0, 3] t305_4))
def t305_5 := b305_5
theorem u305_5 : vcK P t305_5 k e w = vcK P b305_5 k e w := rfl
abbrev b305_6 : X := (.seq (.reg [2] (.c (.q 22 [] (.mv (.t 3))) (.c (.e (some 23) [] (.b2s (.t 22))) (.c (.q 2 [] (.mv (.t 23))) .nil)))) .ret)
def t305_6 := b305_6
theorem u305_6 : vcK P t305_6 k e w = vcK P b305_6 k e w := rfl
abbrev b305_7 : X := (.seq (.seq (.reg [0, 3, 4] (.c (.q 4 [] (.mv (.c (.int .i64 1)))) .nil)) t305_5) t305_6)
def t305_7 := b305_7
theorem u305_7 : vcK P t305_7 k e w = vcK P b305_7 k e w := rfl
abbrev b305_8 : X := (.seq (.reg [0, 3] (.c (.q 5 [] (.mv (.t 0))) (.c (.e (some 6) [] (.s2b 5 (.t 5))) (.c (.q 3 [] (.mv (.t 6))) .nil)))) t305_7)
def t305_8 := b305_8
theorem u305_8 : vcK P t305_8 k e w = vcK P b305_8 k e w := rfl
abbrev b305_0 : X := (.seq (.reg [0] (.c (.q 2 [] (.mv (.s []))) .nil)) t305_8)
def x_sl1Turn := b305_0
theorem u305_0 : vcK P x_sl1Turn k e w = vcK P b305_0 k e w := rfl
def r_sl1Turn : List XO := [(.mv (.t 2))]
theorem c_sl1Turn : convF Try.prog [169, 170, 207, 208, 210, 227, 232, 233, 255, 259, 268, 269, 270, 280, 281, 296, 299, 306, 307, 309] Try.f305 [([0], []), ([0, 3], []), ([0, 3, 4], []), ([4], [0, 3]), ([0, 3, 4, 10], []), ([0, 3, 4], []), ([0, 3, 4], []), ([2], [])] = some (x_sl1Turn, r_sl1Turn) := by kernel_rfl
def us_sl1Turn := aI @u305_0 (aI @u305_1 (aI @u305_2 (aI @u305_3 (aI @u305_4 (aI @u305_5 (aI @u305_6 (aI @u305_7 @u305_8)))))))
abbrev b39_1 : X := (.cond (.t 6) (.seq (.reg [2, 3] (.c (.q 2 [] (.mv (.s []))) (.c (.q 3 [] (.mv (.c (.bool false)))) .nil))) .ret) .skip)
def t39_1 := b39_1
theorem u39_1 : vcK P t39_1 k e w = vcK P b39_1 k e w := rfl
abbrev b39_2 : X := (.seq (.reg [2, 3] (.c (.q 7 [] (.mv (.t 0))) (.c (.e (some 8) [] (.call false 182 [(.t 7)])) (.c (.q 2 [] (.mv (.t 8))) (.c (.q 3 [] (.mv (.c (.bool true)))) .nil))))) .ret)
def t39_2 := b39_2
theorem u39_2 : vcK P t39_2 k e w = vcK P b39_2 k e w := rfl
abbrev b39_3 : X := (.seq (.seq (.reg [0, 6] (.c (.q 4 [] (.mv (.t 0))) (.c (.e (some 5) [] (.call false 181 [(.t 4)])) (.c (.q 6 [] (.not (.t 5))) .nil)))) t39_1) t39_2)
def t39_3 := b39_3
theorem u39_3 : vcK P t39_3 k e w = vcK P b39_3 k e w := rfl
abbrev b39_0 : X := (.seq (.reg [0] (.c (.q 2 [] (.mv (.s []))) (.c (.q 3 [] (.mv (.c (.bool false)))) .nil))) t39_3)
def x_iTurnRow := b39_0
theorem u39_0 : vcK P x_iTurnRow k e w = vcK P b39_0 k e w := rfl
def r_iTurnRow : List XO := [(.mv (.t 2)), (.mv (.t 3))]
theorem c_iTurnRow : convF Try.prog [169, 170, 207, 208, 210, 227, 232, 233, 255, 259, 268, 269, 270, 280, 281, 296, 299, 306, 307, 309] Try.f39 [([0], []), ([0, 6], []), ([2, 3], []), ([2, 3], [])] = some (x_iTurnRow, r_iTurnRow) := by kernel_rfl
def us_iTurnRow := aI @u39_0 (aI @u39_1 (aI @u39_2 @u39_3))
abbrev b37_1 : X := (.cond (.t 6) (.seq (.reg [2, 3] (.c (.q 2 [] (.mv (.s []))) (.c (.q 3 [] (.mv (.c (.bool false)))) .nil))) .ret) .skip)
def t37_1 := b37_1
theorem u37_1 : vcK P t37_1 k e w = vcK P b37_1 k e w := rfl
abbrev b37_2 : X := (.seq (.reg [2, 3] (.c (.q 7 [] (.mv (.t 0))) (.c (.e (some 8) [] (.call false 178 [(.t 7)])) (.c (.q 2 [] (.mv (.t 8))) (.c (.q 3 [] (.mv (.c (.bool true)))) .nil))))) .ret)
def t37_2 := b37_2
theorem u37_2 : vcK P t37_2 k e w = vcK P b37_2 k e w := rfl
abbrev b37_3 : X := (.seq (.seq (.reg [0, 6] (.c (.q 4 [] (.mv (.t 0))) (.c (.e (some 5) [] (.call false 177 [(.t 4)])) (.c (.q 6 [] (.not (.t 5))) .nil)))) t37_1) t37_2)
def t37_3 := b37_3
theorem u37_3 : vcK P t37_3 k e w = vcK P b37_3 k e w := rfl
abbrev b37_0 : X := (.seq (.reg [0] (.c (.q 2 [] (.mv (.s []))) (.c (.q 3 [] (.mv (.c (.bool false)))) .nil))) t37_3)
def x_iRoundsOf := b37_0
theorem u37_0 : vcK P x_iRoundsOf k e w = vcK P b37_0 k e w := rfl
def r_iRoundsOf : List XO := [(.mv (.t 2)), (.mv (.t 3))]
theorem c_iRoundsOf : convF Try.prog [169, 170, 207, 208, 210, 227, 232, 233, 255, 259, 268, 269, 270, 280, 281, 296, 299, 306, 307, 309] Try.f37 [([0], []), ([0, 6], []), ([2, 3], []), ([2, 3], [])] = some (x_iRoundsOf, r_iRoundsOf) := by kernel_rfl
def us_iRoundsOf := aI @u37_0 (aI @u37_1 (aI @u37_2 @u37_3))
abbrev b84_1 : X := (.cond (.t 6) (.seq (.reg [2, 3] (.c (.q 2 [] (.mv (.s []))) (.c (.q 3 [] (.mv (.c (.bool false)))) .nil))) .ret) .skip)
def t84_1 := b84_1
theorem u84_1 : vcK P t84_1 k e w = vcK P b84_1 k e w := rfl
abbrev b84_2 : X := (.seq (.reg [2, 3] (.c (.q 7 [] (.mv (.t 0))) (.c (.e (some 8) [] (.call false 165 [(.t 7)])) (.c (.q 2 [] (.mv (.t 8))) (.c (.q 3 [] (.mv (.c (.bool true)))) .nil))))) .ret)
def t84_2 := b84_2
theorem u84_2 : vcK P t84_2 k e w = vcK P b84_2 k e w := rfl
abbrev b84_3 : X := (.seq (.seq (.reg [0, 6] (.c (.q 4 [] (.mv (.t 0))) (.c (.e (some 5) [] (.call false 173 [(.t 4), (.c (.int .i64 3)), (.c (.int .i64 8))])) (.c (.q 6 [] (.not (.t 5))) .nil)))) t84_1) t84_2)
def t84_3 := b84_3
theorem u84_3 : vcK P t84_3 k e w = vcK P b84_3 k e w := rfl
abbrev b84_0 : X := (.seq (.reg [0] (.c (.q 2 [] (.mv (.s []))) (.c (.q 3 [] (.mv (.c (.bool false)))) .nil))) t84_3)
def x_sRoundsOf := b84_0
theorem u84_0 : vcK P x_sRoundsOf k e w = vcK P b84_0 k e w := rfl
def r_sRoundsOf : List XO := [(.mv (.t 2)), (.mv (.t 3))]
theorem c_sRoundsOf : convF Try.prog [169, 170, 207, 208, 210, 227, 232, 233, 255, 259, 268, 269, 270, 280, 281, 296, 299, 306, 307, 309] Try.f84 [([0], []), ([0, 6], []), ([2, 3], []), ([2, 3], [])] = some (x_sRoundsOf, r_sRoundsOf) := by kernel_rfl
def us_sRoundsOf := aI @u84_0 (aI @u84_1 (aI @u84_2 @u84_3))
abbrev b31_1 : X := (.seq (.reg [4] (.c (.q 5 [] (.mv (.t 0))) (.c (.q 6 [] (.lens (.t 5))) (.c (.q 7 [] (.bin .gtr (.t 6) (.c (.int .i64 1048576)))) (.c (.q 8 [] (.mv (.t 7))) (.c (.q 9 [(8, false)] (.mv (.t 1))) (.c (.q 10 [(8, false)] (.lens (.t 9))) (.c (.q 11 [(8, false)] (.mv (.t 0))) (.c (.q 12 [(8, false)] (.lens (.t 11))) (.c (.q 13 [(8, false)] (.bin .sub (.c (.int .i64 1048576)) (.t 12))) (.c (.q 14 [(8, false)] (.bin .gtr (.t 10) (.t 13))) (.c (.q 15 [] (.pick (.t 8) (.c (.bool true)) (.t 14))) (.c (.q 4 [] (.mv (.t 15))) .nil))))))))))))) .ret)
def t31_1 := b31_1
theorem u31_1 : vcK P t31_1 k e w = vcK P b31_1 k e w := rfl
abbrev b31_0 : X := (.seq (.reg [0, 1] (.c (.q 4 [] (.mv (.c (.bool false)))) .nil)) t31_1)
def x_lbig := b31_0
theorem u31_0 : vcK P x_lbig k e w = vcK P b31_0 k e w := rfl
def r_lbig : List XO := [(.mv (.t 4))]
theorem c_lbig : convF Try.prog [169, 170, 207, 208, 210, 227, 232, 233, 255, 259, 268, 269, 270, 280, 281, 296, 299, 306, 307, 309] Try.f31 [([0, 1], []), ([4], [])] = some (x_lbig, r_lbig) := by kernel_rfl
def us_lbig := aI @u31_0 @u31_1
end

def timesV (a b : List UInt8) : Value := if IsRow a ∧ IsRow b ∧ a.length = b.length then .tuple ⟨[S (timesL a b), .bool true]⟩ else .tuple ⟨[S [], .bool false]⟩
def turnRV (a : List UInt8) : Value := if IsRow a then .tuple ⟨[S (turnL a), .bool true]⟩ else .tuple ⟨[S [], .bool false]⟩
def roundsV (n : Int) : Value := if 3 ≤ n ∧ n ≤ 8 then .tuple ⟨[S (roundsL n.toNat), .bool true]⟩ else .tuple ⟨[S [], .bool false]⟩
/-- A power, of the inverse where the exponent is below 0. -/
def powZ (a : List UInt8) (k : Int) : List UInt8 := if k < 0 then powL (turnL a) (-k).toNat else powL a k.toNat
def powV (a : List UInt8) (k : Int) : Value := if IsRow a ∧ -1000 ≤ k ∧ k ≤ 1000 then .tuple ⟨[S (powZ a k), .bool true]⟩ else .tuple ⟨[S [], .bool false]⟩
theorem iTimes_ok (a b : List UInt8) (w : World) : Fn 40 [S a, S b] w (fun r _ => r = timesV a b) := by
  (refine callsV_of mix Try.func40 c_iTimes ?_; simp only [↓vsd, vsn, gW, qd, qv, ev, pick, argE, zipE, ne_eq, eq_self, forall_const, implies_true, if_true, if_false, reduceIte, reduceCtorEq, Nat.reduceEqDiff, Nat.reduceAdd, Nat.reduceLT, ↓us_iTimes, r_iTimes])
  refine m_call (iGoodRow_ok _ _) ?_
  rintro _ w1 hx1 rfl
  simp only [↓vsd, vsn, gW, qd, qv, ev, pick, argE, zipE, ne_eq, eq_self, forall_const, implies_true, if_true, if_false, reduceIte, reduceCtorEq, Nat.reduceEqDiff, Nat.reduceAdd, Nat.reduceLT, ↓us_iTimes, r_iTimes]
  refine ⟨fun ha => m_call (iisRowOf_ok _ _ _) ?_, fun ha => ⟨hx1, by rw [timesV, if_neg (fun h => ha h.1)]⟩⟩
  rintro _ w2 hx2 rfl
  simp only [↓vsd, vsn, gW, qd, qv, ev, pick, argE, zipE, ne_eq, eq_self, forall_const, implies_true, if_true, if_false, reduceIte, reduceCtorEq, Nat.reduceEqDiff, Nat.reduceAdd, Nat.reduceLT, ↓us_iTimes, r_iTimes]
  refine ⟨fun hb => ⟨hx1.trans hx2, ?_⟩, fun hb => m_call (itimes_ok a b hb.2.2 (by omega) _) ?_⟩
  · rw [timesV, if_neg]
    rintro ⟨h1, h2, h3⟩
    rcases hb with h | h | h
    · exact h h1
    · omega
    · exact h h2
  · rintro _ w3 hx3 rfl
    simp only [↓vsd, vsn, gW, qd, qv, ev, pick, argE, zipE, ne_eq, eq_self, forall_const, implies_true, if_true, if_false, reduceIte, reduceCtorEq, Nat.reduceEqDiff, Nat.reduceAdd, Nat.reduceLT, ↓us_iTimes, r_iTimes]
    exact ⟨(hx1.trans hx2).trans hx3, by rw [timesV, if_pos ⟨hb.1, hb.2.2, by omega⟩]⟩
theorem sl1Two_ok (a b : List UInt8) (w : World) : Fn 221 [S a, S b] w (fun r _ => r = .bool (decide (IsRow a ∧ IsRow b ∧ a.length = b.length))) := by
  (refine callsV_of mix Try.func221 c_sl1Two ?_; simp only [↓vsd, vsn, gW, qd, qv, ev, pick, argE, zipE, ne_eq, eq_self, forall_const, implies_true, if_true, if_false, reduceIte, reduceCtorEq, Nat.reduceEqDiff, Nat.reduceAdd, Nat.reduceLT, ↓us_sl1Two, r_sl1Two])
  refine m_call (sl1Row_ok _ _) ?_
  rintro _ w1 hx1 rfl
  simp only [↓vsd, vsn, gW, qd, qv, ev, pick, argE, zipE, ne_eq, eq_self, forall_const, implies_true, if_true, if_false, reduceIte, reduceCtorEq, Nat.reduceEqDiff, Nat.reduceAdd, Nat.reduceLT, ↓us_sl1Two, r_sl1Two]
  refine ⟨fun ha => m_call (sl1Row_ok _ _) ?_, fun ha => ⟨hx1, by simp [ha]⟩⟩
  rintro _ w2 hx2 rfl
  simp only [↓vsd, vsn, gW, qd, qv, ev, pick, argE, zipE, ne_eq, eq_self, forall_const, implies_true, if_true, if_false, reduceIte, reduceCtorEq, Nat.reduceEqDiff, Nat.reduceAdd, Nat.reduceLT, ↓us_sl1Two, r_sl1Two]
  refine ⟨hx1.trans hx2, ?_⟩
  simp only [← Bool.decide_and]
  congr 1
  exact propext ⟨fun h => ⟨ha, h.1.2, by omega⟩, fun h => ⟨⟨ha, h.2.1⟩, by have := h.2.2; omega⟩⟩
theorem sTimes_ok (a b : List UInt8) (w : World) : Fn 86 [S a, S b] w (fun r _ => r = timesV a b) := by
  (refine callsV_of mix Try.func86 c_sTimes ?_; simp only [↓vsd, vsn, gW, qd, qv, ev, pick, argE, zipE, ne_eq, eq_self, forall_const, implies_true, if_true, if_false, reduceIte, reduceCtorEq, Nat.reduceEqDiff, Nat.reduceAdd, Nat.reduceLT, ↓us_sTimes, r_sTimes])
  refine m_call (sl1Two_ok _ _ _) ?_
  rintro _ w1 hx1 rfl
  simp only [↓vsd, vsn, gW, qd, qv, ev, pick, argE, zipE, ne_eq, eq_self, forall_const, implies_true, if_true, if_false, reduceIte, reduceCtorEq, Nat.reduceEqDiff, Nat.reduceAdd, Nat.reduceLT, ↓us_sTimes, r_sTimes]
  refine ⟨fun hn => ⟨hx1, by rw [timesV, if_neg hn]⟩, fun hy => m_call (sl1Times_ok a b hy.2.1 hy.2.2 _) ?_⟩
  rintro _ w2 hx2 rfl
  simp only [↓vsd, vsn, gW, qd, qv, ev, pick, argE, zipE, ne_eq, eq_self, forall_const, implies_true, if_true, if_false, reduceIte, reduceCtorEq, Nat.reduceEqDiff, Nat.reduceAdd, Nat.reduceLT, ↓us_sTimes, r_sTimes]
  exact ⟨hx1.trans hx2, by rw [timesV, if_pos hy]⟩
theorem iturned_ok (a : List UInt8) (ha : IsRow a) (w : World) : Fn 182 [S a] w (fun r _ => r = S (turnL a)) := by
  (refine callsV_of mix Try.func182 c_iturned ?_; simp only [↓vsd, vsn, gW, qd, qv, ev, pick, argE, zipE, ne_eq, eq_self, forall_const, implies_true, if_true, if_false, reduceIte, reduceCtorEq, Nat.reduceEqDiff, Nat.reduceAdd, Nat.reduceLT, ↓us_iturned, r_iturned])
  have h8 := ha.1
  refine m_msl (f := fU) (B := w.heap.size) (0 : UInt8) fU_len rfl (by omega) (by decide) (Nat.le_refl _) ?_
  rintro vo w1 ho1 _ hx1
  simp only [↓vsd, vsn, gW, qd, qv, ev, pick, argE, zipE, ne_eq, eq_self, forall_const, implies_true, if_true, if_false, reduceIte, reduceCtorEq, Nat.reduceEqDiff, Nat.reduceAdd, Nat.reduceLT, ↓us_iturned, r_iturned, ho1.sq.facts]
  rw [List.length_replicate]
  refine m_upto a.length (fun k vs w' => ∃ l : List UInt8, vs = [.int .i64 k] ∧ l.length = a.length ∧ (∀ j < k, l.getD (bell a j) 0 = UInt8.ofNat (49 + j)) ∧ Own fU 1 5 w.heap.size w' vo l ∧ Ext w w') ⟨_, rfl, List.length_replicate, fun j hj => absurd hj (Nat.not_lt_zero j), ho1, hx1⟩ ?_
  rintro k vs w2 hk ⟨l, rfl, hl, hget, ho, hx⟩
  by_cases hlt : k < a.length
  · have hltI : (k : Int) < a.length := by omega
    have hltJ : ¬ (a.length : Int) ≤ k := by omega
    have hlow := ha.low hlt
    have hhigh := ha.high hlt
    have hbe : ((a.getD k 0).toNat : Int) - 49 = (bell a k : Nat) := by unfold bell; omega
    have hbl := ha.bell_lt hlt
    simp only [↓vsd, vsn, gW, qd, qv, ev, pick, argE, zipE, ne_eq, eq_self, forall_const, implies_true, if_true, if_false, reduceIte, reduceCtorEq, Nat.reduceEqDiff, Nat.reduceAdd, Nat.reduceLT, ↓us_iturned, r_iturned, hltI, hltJ, ho.sq.facts, hl, hbe]
    refine ⟨by omega, inR_u8 (by omega), inR_i64 (by omega), inR_u8 (by omega), by omega, m_set1 (bell a k) (UInt8.ofNat (49 + k)) ho rfl (by omega) (by simp [fU, UInt8.toNat_ofNat', cells_int]; omega) fU_one ?_⟩
    rintro w4 ho4 hg4 hs4
    simp only [↓vsd, vsn, gW, qd, qv, ev, pick, argE, zipE, ne_eq, eq_self, forall_const, implies_true, if_true, if_false, reduceIte, reduceCtorEq, Nat.reduceEqDiff, Nat.reduceAdd, Nat.reduceLT, ↓us_iturned, r_iturned]
    refine ⟨inR_i64 (by omega), UpTo.next hlt ⟨_, rfl, by rw [List.length_set]; exact hl, fun j hj => ?_, ho4, ho.grown (hx) (Nat.le_refl _) hg4⟩⟩
    rw [getD_set]
    by_cases hjk : j = k
    · subst hjk
      rw [if_pos ⟨rfl, by omega⟩]
    · rw [if_neg (fun h => hjk (ha.inj' (by omega) hlt h.1.symm))]
      exact hget j (by omega)
  · obtain rfl : k = a.length := by omega
    have hltI : ¬ (a.length : Int) < a.length := by omega
    simp only [↓vsd, vsn, gW, qd, qv, ev, pick, argE, zipE, ne_eq, eq_self, forall_const, implies_true, if_true, if_false, reduceIte, reduceCtorEq, Nat.reduceEqDiff, Nat.reduceAdd, Nat.reduceLT, ↓us_iturned, r_iturned, hltI]
    refine m_b2s ho.sq ?_
    simp only [↓vsd, vsn, gW, qd, qv, ev, pick, argE, zipE, ne_eq, eq_self, forall_const, implies_true, if_true, if_false, reduceIte, reduceCtorEq, Nat.reduceEqDiff, Nat.reduceAdd, Nat.reduceLT, ↓us_iturned, r_iturned]
    exact ⟨hx, by rw [turn_unique ha hl hget]⟩
theorem sl1Turn_ok (a : List UInt8) (ha : IsRow a) (w : World) : Fn 305 [S a] w (fun r _ => r = S (turnL a)) := by
  (refine callsV_of mix Try.func305 c_sl1Turn ?_; simp only [↓vsd, vsn, gW, qd, qv, ev, pick, argE, zipE, ne_eq, eq_self, forall_const, implies_true, if_true, if_false, reduceIte, reduceCtorEq, Nat.reduceEqDiff, Nat.reduceAdd, Nat.reduceLT, ↓us_sl1Turn, r_sl1Turn])
  have h8 := ha.1
  refine m_s2bU w.heap.size (by omega) (Nat.le_refl _) ?_
  rintro vo w1 ho1 hx1 _
  simp only [↓vsd, vsn, gW, qd, qv, ev, pick, argE, zipE, ne_eq, eq_self, forall_const, implies_true, if_true, if_false, reduceIte, reduceCtorEq, Nat.reduceEqDiff, Nat.reduceAdd, Nat.reduceLT, ↓us_sl1Turn, r_sl1Turn]
  refine m_upto a.length (fun k vs w' => ∃ l : List UInt8, vs = [.int .i64 (k + 1 : Nat)] ∧ l.length = a.length ∧ (∀ j < k, l.getD (bell a j) 0 = UInt8.ofNat (49 + j)) ∧ Own fU 1 5 w.heap.size w' vo l ∧ Ext w w') ⟨_, rfl, rfl, fun j hj => absurd hj (Nat.not_lt_zero j), ho1, hx1⟩ ?_
  rintro k vs w2 hk ⟨l, rfl, hl, hget, ho, hx⟩
  by_cases hlt : k < a.length
  · have hltI : ((k + 1 : Nat) : Int) ≤ a.length := by omega
    have hltJ : ¬ (a.length : Int) < ((k + 1 : Nat) : Int) := by omega
    have hlow := ha.low hlt
    have hhigh := ha.high hlt
    have hbl := ha.bell_lt hlt
    simp only [↓vsd, vsn, gW, qd, qv, ev, pick, argE, zipE, ne_eq, eq_self, forall_const, implies_true, if_true, if_false, reduceIte, reduceCtorEq, Nat.reduceEqDiff, Nat.reduceAdd, Nat.reduceLT, ↓us_sl1Turn, r_sl1Turn, hltI, hltJ]
    refine m_call (sl1At_ok a (k + 1) (by omega) (by rw [Nat.add_sub_cancel]; omega) (by omega) _) ?_
    rintro _ w3 hx3 rfl
    rw [Nat.add_sub_cancel]
    have hbe : ((a.getD k 0).toNat : Int) - 48 - 1 = (bell a k : Nat) := by unfold bell; omega
    have ho3 := ho.ext hx3
    have e49 : (48 : Int) + ((k + 1 : Nat) : Int) = 49 + (k : Nat) := by omega
    simp only [↓vsd, vsn, gW, qd, qv, ev, pick, argE, zipE, ne_eq, eq_self, forall_const, implies_true, if_true, if_false, reduceIte, reduceCtorEq, Nat.reduceEqDiff, Nat.reduceAdd, Nat.reduceLT, ↓us_sl1Turn, r_sl1Turn, hbe, ho3.sq.facts, hl, e49]
    refine ⟨inR_i64 (by omega), inR_i64 (by omega), inR_u8 (by omega), by omega, m_set1 (bell a k) (UInt8.ofNat (49 + k)) ho3 rfl (by omega) (by simp [fU, UInt8.toNat_ofNat', cells_int]; omega) fU_one ?_⟩
    rintro w4 ho4 hg4 hs4
    simp only [↓vsd, vsn, gW, qd, qv, ev, pick, argE, zipE, ne_eq, eq_self, forall_const, implies_true, if_true, if_false, reduceIte, reduceCtorEq, Nat.reduceEqDiff, Nat.reduceAdd, Nat.reduceLT, ↓us_sl1Turn, r_sl1Turn]
    refine ⟨inR_i64 (by omega), UpTo.next hlt ⟨_, rfl, by rw [List.length_set]; exact hl, fun j hj => ?_, ho4, ho3.grown (hx.trans hx3) (Nat.le_refl _) hg4⟩⟩
    rw [getD_set]
    by_cases hjk : j = k
    · subst hjk
      rw [if_pos ⟨rfl, by omega⟩]
    · rw [if_neg (fun h => hjk (ha.inj' (by omega) hlt h.1.symm))]
      exact hget j (by omega)
  · obtain rfl : k = a.length := by omega
    have hltI : ¬ ((a.length + 1 : Nat) : Int) ≤ a.length := by omega
    simp only [↓vsd, vsn, gW, qd, qv, ev, pick, argE, zipE, ne_eq, eq_self, forall_const, implies_true, if_true, if_false, reduceIte, reduceCtorEq, Nat.reduceEqDiff, Nat.reduceAdd, Nat.reduceLT, ↓us_sl1Turn, r_sl1Turn, hltI]
    refine m_b2s ho.sq ?_
    simp only [↓vsd, vsn, gW, qd, qv, ev, pick, argE, zipE, ne_eq, eq_self, forall_const, implies_true, if_true, if_false, reduceIte, reduceCtorEq, Nat.reduceEqDiff, Nat.reduceAdd, Nat.reduceLT, ↓us_sl1Turn, r_sl1Turn]
    exact ⟨hx, by rw [turn_unique ha hl hget]⟩
theorem iTurnRow_ok (a : List UInt8) (w : World) : Fn 39 [S a] w (fun r _ => r = turnRV a) := by
  (refine callsV_of mix Try.func39 c_iTurnRow ?_; simp only [↓vsd, vsn, gW, qd, qv, ev, pick, argE, zipE, ne_eq, eq_self, forall_const, implies_true, if_true, if_false, reduceIte, reduceCtorEq, Nat.reduceEqDiff, Nat.reduceAdd, Nat.reduceLT, ↓us_iTurnRow, r_iTurnRow])
  refine m_call (iGoodRow_ok _ _) ?_
  rintro _ w1 hx1 rfl
  simp only [↓vsd, vsn, gW, qd, qv, ev, pick, argE, zipE, ne_eq, eq_self, forall_const, implies_true, if_true, if_false, reduceIte, reduceCtorEq, Nat.reduceEqDiff, Nat.reduceAdd, Nat.reduceLT, ↓us_iTurnRow, r_iTurnRow]
  refine ⟨fun h => ⟨hx1, by rw [turnRV, if_neg h]⟩, fun h => m_call (iturned_ok a h _) ?_⟩
  rintro _ w2 hx2 rfl
  simp only [↓vsd, vsn, gW, qd, qv, ev, pick, argE, zipE, ne_eq, eq_self, forall_const, implies_true, if_true, if_false, reduceIte, reduceCtorEq, Nat.reduceEqDiff, Nat.reduceAdd, Nat.reduceLT, ↓us_iTurnRow, r_iTurnRow]
  exact ⟨hx1.trans hx2, by rw [turnRV, if_pos h]⟩
theorem iRoundsOf_ok (n : Int) (w : World) : Fn 37 [.int .i64 n] w (fun r _ => r = roundsV n) := by
  (refine callsV_of mix Try.func37 c_iRoundsOf ?_; simp only [↓vsd, vsn, gW, qd, qv, ev, pick, argE, zipE, ne_eq, eq_self, forall_const, implies_true, if_true, if_false, reduceIte, reduceCtorEq, Nat.reduceEqDiff, Nat.reduceAdd, Nat.reduceLT, ↓us_iRoundsOf, r_iRoundsOf])
  refine m_call (iisStage_ok _ _) ?_
  rintro _ w1 hx1 rfl
  simp only [↓vsd, vsn, gW, qd, qv, ev, pick, argE, zipE, ne_eq, eq_self, forall_const, implies_true, if_true, if_false, reduceIte, reduceCtorEq, Nat.reduceEqDiff, Nat.reduceAdd, Nat.reduceLT, ↓us_iRoundsOf, r_iRoundsOf]
  refine ⟨fun hn => ⟨hx1, by rw [roundsV, if_neg (by omega)]⟩, fun hy => ?_⟩
  obtain ⟨n, rfl⟩ : ∃ k : Nat, n = k := ⟨n.toNat, by omega⟩
  refine m_call (irounds_ok n (by omega) _) ?_
  rintro _ w2 hx2 rfl
  simp only [↓vsd, vsn, gW, qd, qv, ev, pick, argE, zipE, ne_eq, eq_self, forall_const, implies_true, if_true, if_false, reduceIte, reduceCtorEq, Nat.reduceEqDiff, Nat.reduceAdd, Nat.reduceLT, ↓us_iRoundsOf, r_iRoundsOf]
  exact ⟨hx1.trans hx2, by rw [roundsV, if_pos hy]; rfl⟩
theorem sRoundsOf_ok (n : Int) (w : World) : Fn 84 [.int .i64 n] w (fun r _ => r = roundsV n) := by
  (refine callsV_of mix Try.func84 c_sRoundsOf ?_; simp only [↓vsd, vsn, gW, qd, qv, ev, pick, argE, zipE, ne_eq, eq_self, forall_const, implies_true, if_true, if_false, reduceIte, reduceCtorEq, Nat.reduceEqDiff, Nat.reduceAdd, Nat.reduceLT, ↓us_sRoundsOf, r_sRoundsOf])
  refine m_call (sl1In_ok _ _ _ _) ?_
  rintro _ w1 hx1 rfl
  simp only [↓vsd, vsn, gW, qd, qv, ev, pick, argE, zipE, ne_eq, eq_self, forall_const, implies_true, if_true, if_false, reduceIte, reduceCtorEq, Nat.reduceEqDiff, Nat.reduceAdd, Nat.reduceLT, ↓us_sRoundsOf, r_sRoundsOf]
  refine ⟨fun hn => ⟨hx1, by rw [roundsV, if_neg (by omega)]⟩, fun hy => ?_⟩
  obtain ⟨n, rfl⟩ : ∃ k : Nat, n = k := ⟨n.toNat, by omega⟩
  refine m_call (sl1Rounds_ok n (by omega) _) ?_
  rintro _ w2 hx2 rfl
  simp only [↓vsd, vsn, gW, qd, qv, ev, pick, argE, zipE, ne_eq, eq_self, forall_const, implies_true, if_true, if_false, reduceIte, reduceCtorEq, Nat.reduceEqDiff, Nat.reduceAdd, Nat.reduceLT, ↓us_sRoundsOf, r_sRoundsOf]
  exact ⟨hx1.trans hx2, by rw [roundsV, if_pos hy]; rfl⟩
theorem lbig_ok (v u : Value) (a b : List UInt8) (ha : a.length ≤ 9223372036854775807) (hb : b.length ≤ 9223372036854775807) (w : World) (h : Sq fU 1 w v a) (h' : Sq fU 1 w u b) : Fn 31 [v, u] w (fun r _ => r = .bool (decide (1048576 < a.length + b.length))) := by
  (refine callsV_of mix Try.func31 c_lbig ?_; simp only [↓vsd, vsn, gW, qd, qv, ev, pick, argE, zipE, ne_eq, eq_self, forall_const, implies_true, if_true, if_false, reduceIte, reduceCtorEq, Nat.reduceEqDiff, Nat.reduceAdd, Nat.reduceLT, ↓us_lbig, r_lbig])
  simp only [↓vsd, vsn, gW, qd, qv, ev, pick, argE, zipE, ne_eq, eq_self, forall_const, implies_true, if_true, if_false, reduceIte, reduceCtorEq, Nat.reduceEqDiff, Nat.reduceAdd, Nat.reduceLT, ↓us_lbig, r_lbig, h.facts, h'.facts]
  refine ⟨fun _ => inR_i64 (by omega), Ext.refl _, ?_⟩
  rw [← Bool.decide_or]
  congr 1
  exact propext ⟨fun h => by omega, fun h => by omega⟩
end Go.Proofs.Ytpnopboffalfnaa
