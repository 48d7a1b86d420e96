/-
  Products, inverses, powers and rounds of rows, as program and reference compute them.
  Conditions: none.
-/
import Derived.Test.YtnincmnkdjlndaaA10
import Derived.Test.YtnincmnkdjlndaaD2
set_option linter.unusedSimpArgs false
set_option linter.unusedVariables false
set_option linter.defProp false
namespace Go.Proofs.Ytnincmnkdjlndaa
open Go Go.RowKit
section
variable (P : Program) (k : KT) (e : Env) (w : World)
abbrev b62_1 : X := (.cond (.t 15) (.seq (.reg [4, 5] (.c (.q 4 [] (.mv (.s []))) (.c (.q 5 [] (.mv (.c (.bool false)))) .nil))) .ret) .skip)
def t62_1 := b62_1
theorem u62_1 : vcK P t62_1 k e w = vcK P b62_1 k e w := rfl
abbrev b62_2 : X := (.seq (.reg [4, 5] (.c (.q 16 [] (.mv (.t 0))) (.c (.q 17 [] (.mv (.t 1))) (.c (.e (some 18) [] (.call false 187 [(.t 16), (.t 17)])) (.c (.q 4 [] (.mv (.t 18))) (.c (.q 5 [] (.mv (.c (.bool true)))) .nil)))))) .ret)
def t62_2 := b62_2
theorem u62_2 : vcK P t62_2 k e w = vcK P b62_2 k e w := rfl
abbrev b62_3 : X := (.seq (.seq (.reg [0, 1, 15] (.c (.q 6 [] (.mv (.t 0))) (.c (.e (some 7) [] (.call false 141 [(.t 6)])) (.c (.q 8 [] (.not (.t 7))) (.c (.q 9 [] (.mv (.t 8))) (.c (.q 10 [(9, false)] (.mv (.t 0))) (.c (.q 11 [(9, false)] (.len (.t 10))) (.c (.q 12 [(9, false)] (.mv (.t 1))) (.c (.e (some 13) [(9, false)] (.call false 143 [(.t 11), (.t 12)])) (.c (.q 14 [(9, false)] (.not (.t 13))) (.c (.q 15 [] (.pick (.t 9) (.c (.bool true)) (.t 14))) .nil))))))))))) t62_1) t62_2)
def t62_3 := b62_3
theorem u62_3 : vcK P t62_3 k e w = vcK P b62_3 k e w := rfl
abbrev b62_0 : X := (.seq (.reg [0, 1] (.c (.q 4 [] (.mv (.s []))) (.c (.q 5 [] (.mv (.c (.bool false)))) .nil))) t62_3)
def x_iTimes := b62_0
theorem u62_0 : vcK P x_iTimes k e w = vcK P b62_0 k e w := rfl
def r_iTimes : List XO := [(.mv (.t 4)), (.mv (.t 5))]
theorem c_iTimes : convF Try.prog [147, 148, 152, 160, 162, 163, 170, 178, 206, 208, 210, 224, 233, 235, 236, 251, 264, 265, 268, 270, 287, 322] Try.f62 [([0, 1], []), ([0, 1, 15], []), ([4, 5], []), ([4, 5], [])] = some (x_iTimes, r_iTimes) := by kernel_rfl
def us_iTimes :=  (aI (aI @u62_0 @u62_1) (aI @u62_2 @u62_3))
abbrev b99_1 : X := (.cond (.t 9) (.seq (.reg [4, 5] (.c (.q 4 [] (.mv (.s []))) (.c (.q 5 [] (.mv (.c (.bool false)))) .nil))) .ret) .skip)
def t99_1 := b99_1
theorem u99_1 : vcK P t99_1 k e w = vcK P b99_1 k e w := rfl
abbrev b99_2 : X := (.seq (.reg [4, 5] (.c (.q 10 [] (.mv (.t 0))) (.c (.q 11 [] (.mv (.t 1))) (.c (.e (some 12) [] (.call false 222 [(.t 10), (.t 11)])) (.c (.q 4 [] (.mv (.t 12))) (.c (.q 5 [] (.mv (.c (.bool true)))) .nil)))))) .ret)
def t99_2 := b99_2
theorem u99_2 : vcK P t99_2 k e w = vcK P b99_2 k e w := rfl
abbrev b99_3 : X := (.seq (.seq (.reg [0, 1, 9] (.c (.q 6 [] (.mv (.t 0))) (.c (.q 7 [] (.mv (.t 1))) (.c (.e (some 8) [] (.call false 213 [(.t 6), (.t 7)])) (.c (.q 9 [] (.not (.t 8))) .nil))))) t99_1) t99_2)
def t99_3 := b99_3
theorem u99_3 : vcK P t99_3 k e w = vcK P b99_3 k e w := rfl
abbrev b99_0 : X := (.seq (.reg [0, 1] (.c (.q 4 [] (.mv (.s []))) (.c (.q 5 [] (.mv (.c (.bool false)))) .nil))) t99_3)
def x_sTimes := b99_0
theorem u99_0 : vcK P x_sTimes k e w = vcK P b99_0 k e w := rfl
def r_sTimes : List XO := [(.mv (.t 4)), (.mv (.t 5))]
theorem c_sTimes : convF Try.prog [147, 148, 152, 160, 162, 163, 170, 178, 206, 208, 210, 224, 233, 235, 236, 251, 264, 265, 268, 270, 287, 322] Try.f99 [([0, 1], []), ([0, 1, 9], []), ([4, 5], []), ([4, 5], [])] = some (x_sTimes, r_sTimes) := by kernel_rfl
def us_sTimes :=  (aI (aI @u99_0 @u99_1) (aI @u99_2 @u99_3))
abbrev b213_1 : X := (.seq (.reg [4] (.c (.q 5 [] (.mv (.t 0))) (.c (.e (some 6) [] (.call false 151 [(.t 5)])) (.c (.q 7 [] (.mv (.t 6))) (.c (.q 8 [(7, true)] (.mv (.t 1))) (.c (.e (some 9) [(7, true)] (.call false 151 [(.t 8)])) (.c (.q 10 [] (.pick (.t 7) (.t 9) (.c (.bool false)))) (.c (.q 11 [] (.mv (.t 10))) (.c (.q 12 [(11, true)] (.mv (.t 0))) (.c (.q 13 [(11, true)] (.len (.t 12))) (.c (.q 14 [(11, true)] (.mv (.t 1))) (.c (.q 15 [(11, true)] (.len (.t 14))) (.c (.q 16 [(11, true)] (.bin .eql (.t 13) (.t 15))) (.c (.q 17 [] (.pick (.t 11) (.t 16) (.c (.bool false)))) (.c (.q 4 [] (.mv (.t 17))) .nil))))))))))))))) .ret)
def t213_1 := b213_1
theorem u213_1 : vcK P t213_1 k e w = vcK P b213_1 k e w := rfl
abbrev b213_0 : X := (.seq (.reg [0, 1] (.c (.q 4 [] (.mv (.c (.bool false)))) .nil)) t213_1)
def x_sl1Two := b213_0
theorem u213_0 : vcK P x_sl1Two k e w = vcK P b213_0 k e w := rfl
def r_sl1Two : List XO := [(.mv (.t 4))]
theorem c_sl1Two : convF Try.prog [147, 148, 152, 160, 162, 163, 170, 178, 206, 208, 210, 224, 233, 235, 236, 251, 264, 265, 268, 270, 287, 322] Try.f213 [([0, 1], []), ([4], [])] = some (x_sl1Two, r_sl1Two) := by kernel_rfl
def us_sl1Two :=  (aI @u213_0 @u213_1)
abbrev b176_1 : X := (.reg [0, 3, 9, 10] (.c (.q 13 [] (.mv (.t 3))) (.c (.q 14 [] (.mv (.t 0))) (.c (.q 15 [] (.mv (.t 4))) (.c (.q 16 [] (.idx (.t 14) (.t 15))) (.c (.q 17 [] (.bin .sub (.t 16) (.c (.int .u8 49)))) (.c (.q 18 [] (.mv (.t 4))) (.c (.q 19 [] (.bin .add (.c (.int .i64 49)) (.t 18))) (.c (.q 20 [] (.cvi .u8 (.t 19))) (.c (.q 21 [] (.ia 1 (.t 13) (.t 17))) (.c (.e none [] (.st 1 (.t 21) (.t 20))) .nil)))))))))))
def t176_1 := b176_1
theorem u176_1 : vcK P t176_1 k e w = vcK P b176_1 k e w := rfl
abbrev b176_2 : X := (.reg [0, 3, 9, 10] (.c (.q 22 [] (.bin .add (.t 10) (.c (.int .i64 1)))) (.c (.q 10 [] (.mv (.t 22))) .nil)))
def t176_2 := b176_2
theorem u176_2 : vcK P t176_2 k e w = vcK P b176_2 k e w := rfl
abbrev b176_3 : X := (.seq (.blk 1 (.seq (.reg [0, 3, 4, 9, 10] (.c (.q 12 [] (.mv (.t 10))) (.c (.q 4 [] (.mv (.t 12))) .nil))) t176_1)) t176_2)
def t176_3 := b176_3
theorem u176_3 : vcK P t176_3 k e w = vcK P b176_3 k e w := rfl
abbrev b176_4 : X := (.seq (.cond (.t 11) .skip (.exit 0)) t176_3)
def t176_4 := b176_4
theorem u176_4 : vcK P t176_4 k e w = vcK P b176_4 k e w := rfl
abbrev b176_5 : X := (.seq (.reg [0, 3, 9, 10, 11] (.c (.q 11 [] (.bin .lss (.t 10) (.t 9))) .nil)) t176_4)
def t176_5 := b176_5
theorem u176_5 : vcK P t176_5 k e w = vcK P b176_5 k e w := rfl
abbrev b176_6 : X := (.blk 0 (.loop [10] [0, 3, 9] t176_5))
def t176_6 := b176_6
theorem u176_6 : vcK P t176_6 k e w = vcK P b176_6 k e w := rfl
abbrev b176_7 : X := (.seq (.reg [2] (.c (.q 23 [] (.mv (.t 3))) (.c (.e (some 24) [] (.b2s (.t 23))) (.c (.q 2 [] (.mv (.t 24))) .nil)))) .ret)
def t176_7 := b176_7
theorem u176_7 : vcK P t176_7 k e w = vcK P b176_7 k e w := rfl
abbrev b176_8 : X := (.seq (.seq (.reg [0, 3, 9, 10] (.c (.q 8 [] (.mv (.t 3))) (.c (.q 9 [] (.lens (.t 8))) (.c (.q 10 [] (.mv (.c (.int .i64 0)))) .nil)))) t176_6) t176_7)
def t176_8 := b176_8
theorem u176_8 : vcK P t176_8 k e w = vcK P b176_8 k e w := rfl
abbrev b176_9 : X := (.seq (.reg [0, 3] (.c (.q 5 [] (.mv (.t 0))) (.c (.q 6 [] (.len (.t 5))) (.c (.e (some 7) [] (.msl 22 5 1 1 [(.int .u8 0)] (.t 6) (.t 6))) (.c (.q 3 [] (.mv (.t 7))) .nil))))) t176_8)
def t176_9 := b176_9
theorem u176_9 : vcK P t176_9 k e w = vcK P b176_9 k e w := rfl
abbrev b176_0 : X := (.seq (.reg [0] (.c (.q 2 [] (.mv (.s []))) .nil)) t176_9)
def x_iturned := b176_0
theorem u176_0 : vcK P x_iturned k e w = vcK P b176_0 k e w := rfl
def r_iturned : List XO := [(.mv (.t 2))]
theorem c_iturned : convF Try.prog [147, 148, 152, 160, 162, 163, 170, 178, 206, 208, 210, 224, 233, 235, 236, 251, 264, 265, 268, 270, 287, 322] Try.f176 [([0], []), ([0, 3], []), ([0, 3, 9, 10], []), ([10], [0, 3, 9]), ([0, 3, 9, 10, 11], []), ([0, 3, 4, 9, 10], []), ([0, 3, 9, 10], []), ([0, 3, 9, 10], []), ([2], [])] = some (x_iturned, r_iturned) := by kernel_rfl
def us_iturned :=  (aI (aI (aI @u176_0 @u176_1) (aI @u176_2 (aI @u176_3 @u176_4))) (aI (aI @u176_5 @u176_6) (aI @u176_7 (aI @u176_8 @u176_9))))
abbrev b182_1 : X := (.cond (.t 10) .skip (.exit 0))
def t182_1 := b182_1
theorem u182_1 : vcK P t182_1 k e w = vcK P b182_1 k e w := rfl
abbrev b182_2 : X := (.reg [0, 3, 4] (.c (.q 11 [] (.mv (.t 4))) (.c (.q 12 [] (.bin .add (.t 11) (.c (.int .i64 1)))) (.c (.q 4 [] (.mv (.t 12))) .nil))))
def t182_2 := b182_2
theorem u182_2 : vcK P t182_2 k e w = vcK P b182_2 k e w := rfl
abbrev b182_3 : X := (.seq (.blk 1 (.reg [0, 3, 4] (.c (.q 13 [] (.mv (.t 3))) (.c (.q 14 [] (.mv (.t 0))) (.c (.q 15 [] (.mv (.t 4))) (.c (.e (some 16) [] (.call false 253 [(.t 14), (.t 15)])) (.c (.q 17 [] (.bin .sub (.t 16) (.c (.int .i64 1)))) (.c (.q 18 [] (.mv (.t 4))) (.c (.q 19 [] (.bin .add (.c (.int .i64 48)) (.t 18))) (.c (.q 20 [] (.cvi .u8 (.t 19))) (.c (.q 21 [] (.ia 1 (.t 13) (.t 17))) (.c (.e none [] (.st 1 (.t 21) (.t 20))) .nil)))))))))))) t182_2)
def t182_3 := b182_3
theorem u182_3 : vcK P t182_3 k e w = vcK P b182_3 k e w := rfl
abbrev b182_4 : X := (.seq (.seq (.reg [0, 3, 4, 10] (.c (.q 7 [] (.mv (.t 4))) (.c (.q 8 [] (.mv (.t 0))) (.c (.q 9 [] (.len (.t 8))) (.c (.q 10 [] (.bin .leq (.t 7) (.t 9))) .nil))))) t182_1) t182_3)
def t182_4 := b182_4
theorem u182_4 : vcK P t182_4 k e w = vcK P b182_4 k e w := rfl
abbrev b182_5 : X := (.blk 0 (.loop [4] [0, 3] t182_4))
def t182_5 := b182_5
theorem u182_5 : vcK P t182_5 k e w = vcK P b182_5 k e w := rfl
abbrev b182_6 : X := (.seq (.reg [2] (.c (.q 22 [] (.mv (.t 3))) (.c (.e (some 23) [] (.b2s (.t 22))) (.c (.q 2 [] (.mv (.t 23))) .nil)))) .ret)
def t182_6 := b182_6
theorem u182_6 : vcK P t182_6 k e w = vcK P b182_6 k e w := rfl
abbrev b182_7 : X := (.seq (.seq (.reg [0, 3, 4] (.c (.q 4 [] (.mv (.c (.int .i64 1)))) .nil)) t182_5) t182_6)
def t182_7 := b182_7
theorem u182_7 : vcK P t182_7 k e w = vcK P b182_7 k e w := rfl
abbrev b182_8 : X := (.seq (.reg [0, 3] (.c (.q 5 [] (.mv (.t 0))) (.c (.e (some 6) [] (.s2b 5 (.t 5))) (.c (.q 3 [] (.mv (.t 6))) .nil)))) t182_7)
def t182_8 := b182_8
theorem u182_8 : vcK P t182_8 k e w = vcK P b182_8 k e w := rfl
abbrev b182_0 : X := (.seq (.reg [0] (.c (.q 2 [] (.mv (.s []))) .nil)) t182_8)
def x_sl1Turn := b182_0
theorem u182_0 : vcK P x_sl1Turn k e w = vcK P b182_0 k e w := rfl
def r_sl1Turn : List XO := [(.mv (.t 2))]
theorem c_sl1Turn : convF Try.prog [147, 148, 152, 160, 162, 163, 170, 178, 206, 208, 210, 224, 233, 235, 236, 251, 264, 265, 268, 270, 287, 322] Try.f182 [([0], []), ([0, 3], []), ([0, 3, 4], []), ([4], [0, 3]), ([0, 3, 4, 10], []), ([0, 3, 4], []), ([0, 3, 4], []), ([2], [])] = some (x_sl1Turn, r_sl1Turn) := by kernel_rfl
def us_sl1Turn :=  (aI (aI (aI @u182_0 @u182_1) (aI @u182_2 @u182_3)) (aI (aI @u182_4 @u182_5) (aI @u182_6 (aI @u182_7 @u182_8))))
abbrev b61_1 : X := (.cond (.t 6) (.seq (.reg [2, 3] (.c (.q 2 [] (.mv (.s []))) (.c (.q 3 [] (.mv (.c (.bool false)))) .nil))) .ret) .skip)
def t61_1 := b61_1
theorem u61_1 : vcK P t61_1 k e w = vcK P b61_1 k e w := rfl
abbrev b61_2 : X := (.seq (.reg [2, 3] (.c (.q 7 [] (.mv (.t 0))) (.c (.e (some 8) [] (.call false 176 [(.t 7)])) (.c (.q 2 [] (.mv (.t 8))) (.c (.q 3 [] (.mv (.c (.bool true)))) .nil))))) .ret)
def t61_2 := b61_2
theorem u61_2 : vcK P t61_2 k e w = vcK P b61_2 k e w := rfl
abbrev b61_3 : X := (.seq (.seq (.reg [0, 6] (.c (.q 4 [] (.mv (.t 0))) (.c (.e (some 5) [] (.call false 141 [(.t 4)])) (.c (.q 6 [] (.not (.t 5))) .nil)))) t61_1) t61_2)
def t61_3 := b61_3
theorem u61_3 : vcK P t61_3 k e w = vcK P b61_3 k e w := rfl
abbrev b61_0 : X := (.seq (.reg [0] (.c (.q 2 [] (.mv (.s []))) (.c (.q 3 [] (.mv (.c (.bool false)))) .nil))) t61_3)
def x_iTurnRow := b61_0
theorem u61_0 : vcK P x_iTurnRow k e w = vcK P b61_0 k e w := rfl
def r_iTurnRow : List XO := [(.mv (.t 2)), (.mv (.t 3))]
theorem c_iTurnRow : convF Try.prog [147, 148, 152, 160, 162, 163, 170, 178, 206, 208, 210, 224, 233, 235, 236, 251, 264, 265, 268, 270, 287, 322] Try.f61 [([0], []), ([0, 6], []), ([2, 3], []), ([2, 3], [])] = some (x_iTurnRow, r_iTurnRow) := by kernel_rfl
def us_iTurnRow :=  (aI (aI @u61_0 @u61_1) (aI @u61_2 @u61_3))
abbrev b20_1 : X := (.cond (.t 6) (.seq (.reg [2, 3] (.c (.q 2 [] (.mv (.s []))) (.c (.q 3 [] (.mv (.c (.bool false)))) .nil))) .ret) .skip)
def t20_1 := b20_1
theorem u20_1 : vcK P t20_1 k e w = vcK P b20_1 k e w := rfl
abbrev b20_2 : X := (.seq (.reg [2, 3] (.c (.q 7 [] (.mv (.t 0))) (.c (.e (some 8) [] (.call false 142 [(.t 7)])) (.c (.q 2 [] (.mv (.t 8))) (.c (.q 3 [] (.mv (.c (.bool true)))) .nil))))) .ret)
def t20_2 := b20_2
theorem u20_2 : vcK P t20_2 k e w = vcK P b20_2 k e w := rfl
abbrev b20_3 : X := (.seq (.seq (.reg [0, 6] (.c (.q 4 [] (.mv (.t 0))) (.c (.e (some 5) [] (.call false 139 [(.t 4)])) (.c (.q 6 [] (.not (.t 5))) .nil)))) t20_1) t20_2)
def t20_3 := b20_3
theorem u20_3 : vcK P t20_3 k e w = vcK P b20_3 k e w := rfl
abbrev b20_0 : X := (.seq (.reg [0] (.c (.q 2 [] (.mv (.s []))) (.c (.q 3 [] (.mv (.c (.bool false)))) .nil))) t20_3)
def x_iRoundsOf := b20_0
theorem u20_0 : vcK P x_iRoundsOf k e w = vcK P b20_0 k e w := rfl
def r_iRoundsOf : List XO := [(.mv (.t 2)), (.mv (.t 3))]
theorem c_iRoundsOf : convF Try.prog [147, 148, 152, 160, 162, 163, 170, 178, 206, 208, 210, 224, 233, 235, 236, 251, 264, 265, 268, 270, 287, 322] Try.f20 [([0], []), ([0, 6], []), ([2, 3], []), ([2, 3], [])] = some (x_iRoundsOf, r_iRoundsOf) := by kernel_rfl
def us_iRoundsOf :=  (aI (aI @u20_0 @u20_1) (aI @u20_2 @u20_3))
abbrev b14_1 : X := (.seq (.reg [4] (.c (.q 5 [] (.mv (.t 0))) (.c (.q 6 [] (.lens (.t 5))) (.c (.q 7 [] (.bin .gtr (.t 6) (.c (.int .i64 1048576)))) (.c (.q 8 [] (.mv (.t 7))) (.c (.q 9 [(8, false)] (.mv (.t 1))) (.c (.q 10 [(8, false)] (.lens (.t 9))) (.c (.q 11 [(8, false)] (.mv (.t 0))) (.c (.q 12 [(8, false)] (.lens (.t 11))) (.c (.q 13 [(8, false)] (.bin .sub (.c (.int .i64 1048576)) (.t 12))) (.c (.q 14 [(8, false)] (.bin .gtr (.t 10) (.t 13))) (.c (.q 15 [] (.pick (.t 8) (.c (.bool true)) (.t 14))) (.c (.q 4 [] (.mv (.t 15))) .nil))))))))))))) .ret)
def t14_1 := b14_1
theorem u14_1 : vcK P t14_1 k e w = vcK P b14_1 k e w := rfl
abbrev b14_0 : X := (.seq (.reg [0, 1] (.c (.q 4 [] (.mv (.c (.bool false)))) .nil)) t14_1)
def x_lbig := b14_0
theorem u14_0 : vcK P x_lbig k e w = vcK P b14_0 k e w := rfl
def r_lbig : List XO := [(.mv (.t 4))]
theorem c_lbig : convF Try.prog [147, 148, 152, 160, 162, 163, 170, 178, 206, 208, 210, 224, 233, 235, 236, 251, 264, 265, 268, 270, 287, 322] Try.f14 [([0, 1], []), ([4], [])] = some (x_lbig, r_lbig) := by kernel_rfl
def us_lbig :=  (aI @u14_0 @u14_1)
abbrev b50_1 : X := (.reg [3, 6, 7, 8] (.c (.q 12 [] (.mv (.t 3))) (.c (.q 13 [] (.bin .mul (.c (.int .i64 31)) (.t 12))) (.c (.q 14 [] (.mv (.t 5))) (.c (.q 15 [] (.cvi .i64 (.t 14))) (.c (.q 16 [] (.bin .add (.t 13) (.t 15))) (.c (.q 17 [] (.bin .rem (.t 16) (.c (.int .i64 1000003)))) (.c (.q 3 [] (.mv (.t 17))) .nil))))))))
def t50_1 := b50_1
theorem u50_1 : vcK P t50_1 k e w = vcK P b50_1 k e w := rfl
abbrev b50_2 : X := (.reg [3, 6, 7, 8] (.c (.q 18 [] (.bin .add (.t 8) (.c (.int .i64 1)))) (.c (.q 8 [] (.mv (.t 18))) .nil)))
def t50_2 := b50_2
theorem u50_2 : vcK P t50_2 k e w = vcK P b50_2 k e w := rfl
abbrev b50_3 : X := (.seq (.blk 1 (.seq (.reg [3, 5, 6, 7, 8] (.c (.q 10 [] (.ia 1 (.t 6) (.t 8))) (.c (.q 11 [] (.ld (.t 10))) (.c (.q 5 [] (.mv (.t 11))) .nil)))) t50_1)) t50_2)
def t50_3 := b50_3
theorem u50_3 : vcK P t50_3 k e w = vcK P b50_3 k e w := rfl
abbrev b50_4 : X := (.seq (.cond (.t 9) .skip (.exit 0)) t50_3)
def t50_4 := b50_4
theorem u50_4 : vcK P t50_4 k e w = vcK P b50_4 k e w := rfl
abbrev b50_5 : X := (.seq (.reg [3, 6, 7, 8, 9] (.c (.q 9 [] (.bin .lss (.t 8) (.t 7))) .nil)) t50_4)
def t50_5 := b50_5
theorem u50_5 : vcK P t50_5 k e w = vcK P b50_5 k e w := rfl
abbrev b50_6 : X := (.blk 0 (.loop [3, 8] [6, 7] t50_5))
def t50_6 := b50_6
theorem u50_6 : vcK P t50_6 k e w = vcK P b50_6 k e w := rfl
abbrev b50_7 : X := (.seq (.reg [2] (.c (.q 19 [] (.mv (.t 3))) (.c (.q 2 [] (.mv (.t 19))) .nil))) .ret)
def t50_7 := b50_7
theorem u50_7 : vcK P t50_7 k e w = vcK P b50_7 k e w := rfl
abbrev b50_8 : X := (.seq (.seq (.reg [3, 6, 7, 8] (.c (.q 6 [] (.mv (.t 0))) (.c (.q 7 [] (.lens (.t 6))) (.c (.q 8 [] (.mv (.c (.int .i64 0)))) .nil)))) t50_6) t50_7)
def t50_8 := b50_8
theorem u50_8 : vcK P t50_8 k e w = vcK P b50_8 k e w := rfl
abbrev b50_9 : X := (.seq (.reg [0, 3] (.c (.q 3 [] (.mv (.c (.int .i64 0)))) .nil)) t50_8)
def t50_9 := b50_9
theorem u50_9 : vcK P t50_9 k e w = vcK P b50_9 k e w := rfl
abbrev b50_0 : X := (.seq (.reg [0] (.c (.q 2 [] (.mv (.c (.int .i64 0)))) .nil)) t50_9)
def x_lnumberOf := b50_0
theorem u50_0 : vcK P x_lnumberOf k e w = vcK P b50_0 k e w := rfl
def r_lnumberOf : List XO := [(.mv (.t 2))]
theorem c_lnumberOf : convF Try.prog [147, 148, 152, 160, 162, 163, 170, 178, 206, 208, 210, 224, 233, 235, 236, 251, 264, 265, 268, 270, 287, 322] Try.f50 [([0], []), ([0, 3], []), ([3, 6, 7, 8], []), ([3, 8], [6, 7]), ([3, 6, 7, 8, 9], []), ([3, 5, 6, 7, 8], []), ([3, 6, 7, 8], []), ([3, 6, 7, 8], []), ([2], [])] = some (x_lnumberOf, r_lnumberOf) := by kernel_rfl
def us_lnumberOf :=  (aI (aI (aI @u50_0 @u50_1) (aI @u50_2 (aI @u50_3 @u50_4))) (aI (aI @u50_5 @u50_6) (aI @u50_7 (aI @u50_8 @u50_9))))
end

def timesV (a b : List UInt8) : Value := if IsRow a ∧ IsRow b ∧ a.length = b.length then .tuple ⟨[S (timesL a b), .bool true]⟩ else .tuple ⟨[S [], .bool false]⟩
def turnRV (a : List UInt8) : Value := if IsRow a then .tuple ⟨[S (turnL a), .bool true]⟩ else .tuple ⟨[S [], .bool false]⟩
def roundsV (n : Int) : Value := if 3 ≤ n ∧ n ≤ 8 then .tuple ⟨[S (roundsL n.toNat), .bool true]⟩ else .tuple ⟨[S [], .bool false]⟩
/-- A power, of the inverse where the exponent is below 0. -/
def powZ (a : List UInt8) (k : Int) : List UInt8 := if k < 0 then powL (turnL a) (-k).toNat else powL a k.toNat
def powV (a : List UInt8) (k : Int) : Value := if IsRow a ∧ -1000 ≤ k ∧ k ≤ 1000 then .tuple ⟨[S (powZ a k), .bool true]⟩ else .tuple ⟨[S [], .bool false]⟩
theorem iTimes_ok (a b : List UInt8) (w : World) : Fn 62 [S a, S b] w (fun r _ => r = timesV a b) := by
  (refine callsV_of mix Try.func62 c_iTimes ?_; simp only [↓vsd, vsn, gW, qd, qv, ev, pick, argE, zipE, ne_eq, eq_self, forall_const, implies_true, if_true, if_false, reduceIte, reduceCtorEq, Nat.reduceEqDiff, Nat.reduceAdd, Nat.reduceLT, ↓us_iTimes, r_iTimes])
  refine m_call (iGoodRow_ok _ _) ?_
  rintro _ w1 hx1 rfl
  simp only [↓vsd, vsn, gW, qd, qv, ev, pick, argE, zipE, ne_eq, eq_self, forall_const, implies_true, if_true, if_false, reduceIte, reduceCtorEq, Nat.reduceEqDiff, Nat.reduceAdd, Nat.reduceLT, ↓us_iTimes, r_iTimes]
  refine ⟨fun ha => m_call (iisRowOf_ok _ _ _) ?_, fun ha => ⟨hx1, by rw [timesV, if_neg (fun h => ha h.1)]⟩⟩
  rintro _ w2 hx2 rfl
  simp only [↓vsd, vsn, gW, qd, qv, ev, pick, argE, zipE, ne_eq, eq_self, forall_const, implies_true, if_true, if_false, reduceIte, reduceCtorEq, Nat.reduceEqDiff, Nat.reduceAdd, Nat.reduceLT, ↓us_iTimes, r_iTimes]
  refine ⟨fun hb => ⟨hx1.trans hx2, ?_⟩, fun hb => m_call (itimes_ok a b hb.2.2 (by omega) _) ?_⟩
  · rw [timesV, if_neg]
    rintro ⟨h1, h2, h3⟩
    rcases hb with h | h | h
    · exact h h1
    · omega
    · exact h h2
  · rintro _ w3 hx3 rfl
    simp only [↓vsd, vsn, gW, qd, qv, ev, pick, argE, zipE, ne_eq, eq_self, forall_const, implies_true, if_true, if_false, reduceIte, reduceCtorEq, Nat.reduceEqDiff, Nat.reduceAdd, Nat.reduceLT, ↓us_iTimes, r_iTimes]
    exact ⟨(hx1.trans hx2).trans hx3, by rw [timesV, if_pos ⟨hb.1, hb.2.2, by omega⟩]⟩
theorem sl1Two_ok (a b : List UInt8) (w : World) : Fn 213 [S a, S b] w (fun r _ => r = .bool (decide (IsRow a ∧ IsRow b ∧ a.length = b.length))) := by
  (refine callsV_of mix Try.func213 c_sl1Two ?_; simp only [↓vsd, vsn, gW, qd, qv, ev, pick, argE, zipE, ne_eq, eq_self, forall_const, implies_true, if_true, if_false, reduceIte, reduceCtorEq, Nat.reduceEqDiff, Nat.reduceAdd, Nat.reduceLT, ↓us_sl1Two, r_sl1Two])
  refine m_call (sl1Row_ok _ _) ?_
  rintro _ w1 hx1 rfl
  simp only [↓vsd, vsn, gW, qd, qv, ev, pick, argE, zipE, ne_eq, eq_self, forall_const, implies_true, if_true, if_false, reduceIte, reduceCtorEq, Nat.reduceEqDiff, Nat.reduceAdd, Nat.reduceLT, ↓us_sl1Two, r_sl1Two]
  refine ⟨fun ha => m_call (sl1Row_ok _ _) ?_, fun ha => ⟨hx1, by simp [ha]⟩⟩
  rintro _ w2 hx2 rfl
  simp only [↓vsd, vsn, gW, qd, qv, ev, pick, argE, zipE, ne_eq, eq_self, forall_const, implies_true, if_true, if_false, reduceIte, reduceCtorEq, Nat.reduceEqDiff, Nat.reduceAdd, Nat.reduceLT, ↓us_sl1Two, r_sl1Two]
  refine ⟨hx1.trans hx2, ?_⟩
  simp only [← Bool.decide_and]
  congr 1
  exact propext ⟨fun h => ⟨ha, h.1.2, by omega⟩, fun h => ⟨⟨ha, h.2.1⟩, by have := h.2.2; omega⟩⟩
theorem sTimes_ok (a b : List UInt8) (w : World) : Fn 99 [S a, S b] w (fun r _ => r = timesV a b) := by
  (refine callsV_of mix Try.func99 c_sTimes ?_; simp only [↓vsd, vsn, gW, qd, qv, ev, pick, argE, zipE, ne_eq, eq_self, forall_const, implies_true, if_true, if_false, reduceIte, reduceCtorEq, Nat.reduceEqDiff, Nat.reduceAdd, Nat.reduceLT, ↓us_sTimes, r_sTimes])
  refine m_call (sl1Two_ok _ _ _) ?_
  rintro _ w1 hx1 rfl
  simp only [↓vsd, vsn, gW, qd, qv, ev, pick, argE, zipE, ne_eq, eq_self, forall_const, implies_true, if_true, if_false, reduceIte, reduceCtorEq, Nat.reduceEqDiff, Nat.reduceAdd, Nat.reduceLT, ↓us_sTimes, r_sTimes]
  refine ⟨fun hn => ⟨hx1, by rw [timesV, if_neg hn]⟩, fun hy => m_call (sl1Times_ok a b hy.2.1 hy.2.2 _) ?_⟩
  rintro _ w2 hx2 rfl
  simp only [↓vsd, vsn, gW, qd, qv, ev, pick, argE, zipE, ne_eq, eq_self, forall_const, implies_true, if_true, if_false, reduceIte, reduceCtorEq, Nat.reduceEqDiff, Nat.reduceAdd, Nat.reduceLT, ↓us_sTimes, r_sTimes]
  exact ⟨hx1.trans hx2, by rw [timesV, if_pos hy]⟩
theorem iturned_ok (a : List UInt8) (ha : IsRow a) (w : World) : Fn 176 [S a] w (fun r _ => r = S (turnL a)) := by
  (refine callsV_of mix Try.func176 c_iturned ?_; simp only [↓vsd, vsn, gW, qd, qv, ev, pick, argE, zipE, ne_eq, eq_self, forall_const, implies_true, if_true, if_false, reduceIte, reduceCtorEq, Nat.reduceEqDiff, Nat.reduceAdd, Nat.reduceLT, ↓us_iturned, r_iturned])
  have h8 := ha.1
  refine m_msl (f := fU) (B := w.heap.size) (0 : UInt8) fU_len rfl (by omega) (by decide) (Nat.le_refl _) ?_
  rintro vo w1 ho1 _ hx1
  simp only [↓vsd, vsn, gW, qd, qv, ev, pick, argE, zipE, ne_eq, eq_self, forall_const, implies_true, if_true, if_false, reduceIte, reduceCtorEq, Nat.reduceEqDiff, Nat.reduceAdd, Nat.reduceLT, ↓us_iturned, r_iturned, ho1.sq.facts]
  rw [List.length_replicate]
  refine m_upto a.length (fun k vs w' => ∃ l : List UInt8, vs = [.int .i64 k] ∧ l.length = a.length ∧ (∀ j < k, l.getD (bell a j) 0 = UInt8.ofNat (49 + j)) ∧ Own fU 1 5 w.heap.size w' vo l ∧ Ext w w') ⟨_, rfl, List.length_replicate, fun j hj => absurd hj (Nat.not_lt_zero j), ho1, hx1⟩ ?_
  rintro k vs w2 hk ⟨l, rfl, hl, hget, ho, hx⟩
  by_cases hlt : k < a.length
  · have hltI : (k : Int) < a.length := by omega
    have hltJ : ¬ (a.length : Int) ≤ k := by omega
    have hlow := ha.low hlt
    have hhigh := ha.high hlt
    have hbe : ((a.getD k 0).toNat : Int) - 49 = (bell a k : Nat) := by unfold bell; omega
    have hbl := ha.bell_lt hlt
    simp only [↓vsd, vsn, gW, qd, qv, ev, pick, argE, zipE, ne_eq, eq_self, forall_const, implies_true, if_true, if_false, reduceIte, reduceCtorEq, Nat.reduceEqDiff, Nat.reduceAdd, Nat.reduceLT, ↓us_iturned, r_iturned, hltI, hltJ, ho.sq.facts, hl, hbe]
    refine ⟨by omega, inR_u8 (by omega), inR_i64 (by omega), inR_u8 (by omega), by omega, m_set1 (bell a k) (UInt8.ofNat (49 + k)) ho rfl (by omega) (by simp [fU, UInt8.toNat_ofNat', cells_int]; omega) fU_one ?_⟩
    rintro w4 ho4 hg4 hs4
    simp only [↓vsd, vsn, gW, qd, qv, ev, pick, argE, zipE, ne_eq, eq_self, forall_const, implies_true, if_true, if_false, reduceIte, reduceCtorEq, Nat.reduceEqDiff, Nat.reduceAdd, Nat.reduceLT, ↓us_iturned, r_iturned]
    refine ⟨inR_i64 (by omega), UpTo.next hlt ⟨_, rfl, by rw [List.length_set]; exact hl, fun j hj => ?_, ho4, ho.grown (hx) (Nat.le_refl _) hg4⟩⟩
    rw [getD_set]
    by_cases hjk : j = k
    · subst hjk
      rw [if_pos ⟨rfl, by omega⟩]
    · rw [if_neg (fun h => hjk (ha.inj' (by omega) hlt h.1.symm))]
      exact hget j (by omega)
  · obtain rfl : k = a.length := by omega
    have hltI : ¬ (a.length : Int) < a.length := by omega
    simp only [↓vsd, vsn, gW, qd, qv, ev, pick, argE, zipE, ne_eq, eq_self, forall_const, implies_true, if_true, if_false, reduceIte, reduceCtorEq, Nat.reduceEqDiff, Nat.reduceAdd, Nat.reduceLT, ↓us_iturned, r_iturned, hltI]
    refine m_b2s ho.sq ?_
    simp only [↓vsd, vsn, gW, qd, qv, ev, pick, argE, zipE, ne_eq, eq_self, forall_const, implies_true, if_true, if_false, reduceIte, reduceCtorEq, Nat.reduceEqDiff, Nat.reduceAdd, Nat.reduceLT, ↓us_iturned, r_iturned]
    exact ⟨hx, by rw [turn_unique ha hl hget]⟩
theorem sl1Turn_ok (a : List UInt8) (ha : IsRow a) (w : World) : Fn 182 [S a] w (fun r _ => r = S (turnL a)) := by
  (refine callsV_of mix Try.func182 c_sl1Turn ?_; simp only [↓vsd, vsn, gW, qd, qv, ev, pick, argE, zipE, ne_eq, eq_self, forall_const, implies_true, if_true, if_false, reduceIte, reduceCtorEq, Nat.reduceEqDiff, Nat.reduceAdd, Nat.reduceLT, ↓us_sl1Turn, r_sl1Turn])
  have h8 := ha.1
  refine m_s2bU w.heap.size (by omega) (Nat.le_refl _) ?_
  rintro vo w1 ho1 hx1 _
  simp only [↓vsd, vsn, gW, qd, qv, ev, pick, argE, zipE, ne_eq, eq_self, forall_const, implies_true, if_true, if_false, reduceIte, reduceCtorEq, Nat.reduceEqDiff, Nat.reduceAdd, Nat.reduceLT, ↓us_sl1Turn, r_sl1Turn]
  refine m_upto a.length (fun k vs w' => ∃ l : List UInt8, vs = [.int .i64 (k + 1 : Nat)] ∧ l.length = a.length ∧ (∀ j < k, l.getD (bell a j) 0 = UInt8.ofNat (49 + j)) ∧ Own fU 1 5 w.heap.size w' vo l ∧ Ext w w') ⟨_, rfl, rfl, fun j hj => absurd hj (Nat.not_lt_zero j), ho1, hx1⟩ ?_
  rintro k vs w2 hk ⟨l, rfl, hl, hget, ho, hx⟩
  by_cases hlt : k < a.length
  · have hltI : ((k + 1 : Nat) : Int) ≤ a.length := by omega
    have hltJ : ¬ (a.length : Int) < ((k + 1 : Nat) : Int) := by omega
    have hlow := ha.low hlt
    have hhigh := ha.high hlt
    have hbl := ha.bell_lt hlt
    simp only [↓vsd, vsn, gW, qd, qv, ev, pick, argE, zipE, ne_eq, eq_self, forall_const, implies_true, if_true, if_false, reduceIte, reduceCtorEq, Nat.reduceEqDiff, Nat.reduceAdd, Nat.reduceLT, ↓us_sl1Turn, r_sl1Turn, hltI, hltJ]
    refine m_call (sl1At_ok a (k + 1) (by omega) (by rw [Nat.add_sub_cancel]; omega) (by omega) _) ?_
    rintro _ w3 hx3 rfl
    rw [Nat.add_sub_cancel]
    have hbe : ((a.getD k 0).toNat : Int) - 48 - 1 = (bell a k : Nat) := by unfold bell; omega
    have ho3 := ho.ext hx3
    have e49 : (48 : Int) + ((k + 1 : Nat) : Int) = 49 + (k : Nat) := by omega
    simp only [↓vsd, vsn, gW, qd, qv, ev, pick, argE, zipE, ne_eq, eq_self, forall_const, implies_true, if_true, if_false, reduceIte, reduceCtorEq, Nat.reduceEqDiff, Nat.reduceAdd, Nat.reduceLT, ↓us_sl1Turn, r_sl1Turn, hbe, ho3.sq.facts, hl, e49]
    refine ⟨inR_i64 (by omega), inR_i64 (by omega), inR_u8 (by omega), by omega, m_set1 (bell a k) (UInt8.ofNat (49 + k)) ho3 rfl (by omega) (by simp [fU, UInt8.toNat_ofNat', cells_int]; omega) fU_one ?_⟩
    rintro w4 ho4 hg4 hs4
    simp only [↓vsd, vsn, gW, qd, qv, ev, pick, argE, zipE, ne_eq, eq_self, forall_const, implies_true, if_true, if_false, reduceIte, reduceCtorEq, Nat.reduceEqDiff, Nat.reduceAdd, Nat.reduceLT, ↓us_sl1Turn, r_sl1Turn]
    refine ⟨inR_i64 (by omega), UpTo.next hlt ⟨_, rfl, by rw [List.length_set]; exact hl, fun j hj => ?_, ho4, ho3.grown (hx.trans hx3) (Nat.le_refl _) hg4⟩⟩
    rw [getD_set]
    by_cases hjk : j = k
    · subst hjk
      rw [if_pos ⟨rfl, by omega⟩]
    · rw [if_neg (fun h => hjk (ha.inj' (by omega) hlt h.1.symm))]
      exact hget j (by omega)
  · obtain rfl : k = a.length := by omega
    have hltI : ¬ ((a.length + 1 : Nat) : Int) ≤ a.length := by omega
    simp only [↓vsd, vsn, gW, qd, qv, ev, pick, argE, zipE, ne_eq, eq_self, forall_const, implies_true, if_true, if_false, reduceIte, reduceCtorEq, Nat.reduceEqDiff, Nat.reduceAdd, Nat.reduceLT, ↓us_sl1Turn, r_sl1Turn, hltI]
    refine m_b2s ho.sq ?_
    simp only [↓vsd, vsn, gW, qd, qv, ev, pick, argE, zipE, ne_eq, eq_self, forall_const, implies_true, if_true, if_false, reduceIte, reduceCtorEq, Nat.reduceEqDiff, Nat.reduceAdd, Nat.reduceLT, ↓us_sl1Turn, r_sl1Turn]
    exact ⟨hx, by rw [turn_unique ha hl hget]⟩
theorem iTurnRow_ok (a : List UInt8) (w : World) : Fn 61 [S a] w (fun r _ => r = turnRV a) := by
  (refine callsV_of mix Try.func61 c_iTurnRow ?_; simp only [↓vsd, vsn, gW, qd, qv, ev, pick, argE, zipE, ne_eq, eq_self, forall_const, implies_true, if_true, if_false, reduceIte, reduceCtorEq, Nat.reduceEqDiff, Nat.reduceAdd, Nat.reduceLT, ↓us_iTurnRow, r_iTurnRow])
  refine m_call (iGoodRow_ok _ _) ?_
  rintro _ w1 hx1 rfl
  simp only [↓vsd, vsn, gW, qd, qv, ev, pick, argE, zipE, ne_eq, eq_self, forall_const, implies_true, if_true, if_false, reduceIte, reduceCtorEq, Nat.reduceEqDiff, Nat.reduceAdd, Nat.reduceLT, ↓us_iTurnRow, r_iTurnRow]
  refine ⟨fun h => ⟨hx1, by rw [turnRV, if_neg h]⟩, fun h => m_call (iturned_ok a h _) ?_⟩
  rintro _ w2 hx2 rfl
  simp only [↓vsd, vsn, gW, qd, qv, ev, pick, argE, zipE, ne_eq, eq_self, forall_const, implies_true, if_true, if_false, reduceIte, reduceCtorEq, Nat.reduceEqDiff, Nat.reduceAdd, Nat.reduceLT, ↓us_iTurnRow, r_iTurnRow]
  exact ⟨hx1.trans hx2, by rw [turnRV, if_pos h]⟩
theorem iRoundsOf_ok (n : Int) (w : World) : Fn 20 [.int .i64 n] w (fun r _ => r = roundsV n) := by
  (refine callsV_of mix Try.func20 c_iRoundsOf ?_; simp only [↓vsd, vsn, gW, qd, qv, ev, pick, argE, zipE, ne_eq, eq_self, forall_const, implies_true, if_true, if_false, reduceIte, reduceCtorEq, Nat.reduceEqDiff, Nat.reduceAdd, Nat.reduceLT, ↓us_iRoundsOf, r_iRoundsOf])
  refine m_call (iisStage_ok _ _) ?_
  rintro _ w1 hx1 rfl
  simp only [↓vsd, vsn, gW, qd, qv, ev, pick, argE, zipE, ne_eq, eq_self, forall_const, implies_true, if_true, if_false, reduceIte, reduceCtorEq, Nat.reduceEqDiff, Nat.reduceAdd, Nat.reduceLT, ↓us_iRoundsOf, r_iRoundsOf]
  refine ⟨fun hn => ⟨hx1, by rw [roundsV, if_neg (by omega)]⟩, fun hy => ?_⟩
  obtain ⟨n, rfl⟩ : ∃ k : Nat, n = k := ⟨n.toNat, by omega⟩
  refine m_call (irounds_ok n (by omega) _) ?_
  rintro _ w2 hx2 rfl
  simp only [↓vsd, vsn, gW, qd, qv, ev, pick, argE, zipE, ne_eq, eq_self, forall_const, implies_true, if_true, if_false, reduceIte, reduceCtorEq, Nat.reduceEqDiff, Nat.reduceAdd, Nat.reduceLT, ↓us_iRoundsOf, r_iRoundsOf]
  exact ⟨hx1.trans hx2, by rw [roundsV, if_pos hy]; rfl⟩
theorem lbig_ok (v u : Value) (a b : List UInt8) (ha : a.length ≤ 9223372036854775807) (hb : b.length ≤ 9223372036854775807) (w : World) (h : Sq fU 1 w v a) (h' : Sq fU 1 w u b) : Fn 14 [v, u] w (fun r _ => r = .bool (decide (1048576 < a.length + b.length))) := by
  (refine callsV_of mix Try.func14 c_lbig ?_; simp only [↓vsd, vsn, gW, qd, qv, ev, pick, argE, zipE, ne_eq, eq_self, forall_const, implies_true, if_true, if_false, reduceIte, reduceCtorEq, Nat.reduceEqDiff, Nat.reduceAdd, Nat.reduceLT, ↓us_lbig, r_lbig])
  simp only [↓vsd, vsn, gW, qd, qv, ev, pick, argE, zipE, ne_eq, eq_self, forall_const, implies_true, if_true, if_false, reduceIte, reduceCtorEq, Nat.reduceEqDiff, Nat.reduceAdd, Nat.reduceLT, ↓us_lbig, r_lbig, h.facts, h'.facts]
  refine ⟨fun _ => inR_i64 (by omega), Ext.refl _, ?_⟩
  rw [← Bool.decide_or]
  congr 1
  exact propext ⟨fun h => by omega, fun h => by omega⟩
theorem lnumberOf_ok (v : Value) (l : List UInt8) (hl : l.length ≤ 1048576) (w : World) (h : Sq fU 1 w v l) : Fn 50 [v] w (fun r _ => ∃ n : Nat, r = .int .i64 n ∧ n < 1000003) := by
  (refine callsV_of mix Try.func50 c_lnumberOf ?_; simp only [↓vsd, vsn, gW, qd, qv, ev, pick, argE, zipE, ne_eq, eq_self, forall_const, implies_true, if_true, if_false, reduceIte, reduceCtorEq, Nat.reduceEqDiff, Nat.reduceAdd, Nat.reduceLT, ↓us_lnumberOf, r_lnumberOf])
  simp only [↓vsd, vsn, gW, qd, qv, ev, pick, argE, zipE, ne_eq, eq_self, forall_const, implies_true, if_true, if_false, reduceIte, reduceCtorEq, Nat.reduceEqDiff, Nat.reduceAdd, Nat.reduceLT, ↓us_lnumberOf, r_lnumberOf, h.facts]
  refine m_upto l.length (fun k vs w' => ∃ n : Nat, vs = [.int .i64 n, .int .i64 k] ∧ n < 1000003 ∧ Ext w w') ⟨0, rfl, by omega, Ext.refl _⟩ ?_
  rintro k vs w1 hk ⟨n, rfl, hn, hx⟩
  have hq := h.ext hx
  by_cases hlt : k < l.length
  · have hltI : (k : Int) < l.length := by omega
    have hltJ : ¬ (l.length : Int) ≤ k := by omega
    have hcl := (l.getD k 0).toNat_lt
    have e : (31 : Int) * (n : Nat) + ((l.getD k 0).toNat : Nat) = ((31 * n + (l.getD k 0).toNat : Nat) : Int) := by omega
    simp only [↓vsd, vsn, gW, qd, qv, ev, pick, argE, zipE, ne_eq, eq_self, forall_const, implies_true, if_true, if_false, reduceIte, reduceCtorEq, Nat.reduceEqDiff, Nat.reduceAdd, Nat.reduceLT, ↓us_lnumberOf, r_lnumberOf, hq.facts, hq.at1 0 hlt, hltI, hltJ, e]
    refine ⟨by omega, inR_i64 (by omega), inR_i64 (by omega), by decide, inR_i64 (by omega), UpTo.next hlt ⟨(31 * n + (l.getD k 0).toNat) % 1000003, ?_, Nat.mod_lt _ (by decide), hx⟩⟩
    rw [Int.tmod_eq_emod_of_nonneg (by omega)]
    rfl
  · obtain rfl : k = l.length := by omega
    have hltI : ¬ (l.length : Int) < l.length := by omega
    simp only [↓vsd, vsn, gW, qd, qv, ev, pick, argE, zipE, ne_eq, eq_self, forall_const, implies_true, if_true, if_false, reduceIte, reduceCtorEq, Nat.reduceEqDiff, Nat.reduceAdd, Nat.reduceLT, ↓us_lnumberOf, r_lnumberOf, hltI]
    exact ⟨hx, n, rfl, hn⟩
end Go.Proofs.Ytnincmnkdjlndaa
