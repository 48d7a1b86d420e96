/-
  The call of the law FnTrueLists.
  Conditions: none.
-/
import Derived.Test.YtnincmnkdjlndaaA74
import Derived.Test.YtnincmnkdjlndaaA75
import Derived.Test.YtnincmnkdjlndaaD14
import Derived.Test.YtnincmnkdjlndaaD30
import Derived.Test.YtnincmnkdjlndaaA46
import Derived.Test.YtnincmnkdjlndaaA36
import Derived.Test.YtnincmnkdjlndaaA26
set_option linter.unusedSimpArgs false
set_option linter.unusedVariables false
set_option linter.defProp false
namespace Go.Proofs.Ytnincmnkdjlndaa
open Go Go.RowKit
section
variable (P : Program) (k : KT) (e : Env) (w : World)
abbrev b170_1 : X := (.cond (.t 11) (.reg [0, 3, 4] (.c (.q 12 [] (.mv (.t 4))) (.c (.q 13 [] (.ssl 1 (.t 12) none (some (.c (.int .i64 200))))) (.c (.q 4 [] (.mv (.t 13))) .nil)))) .skip)
def t170_1 := b170_1
theorem u170_1 : vcK P t170_1 k e w = vcK P b170_1 k e w := rfl
abbrev b170_2 : X := (.cond (.t 31) (.reg [4] (.c (.q 33 [] (.mv (.t 0))) (.c (.q 34 [] (.fa 1 (.t 3))) (.c (.q 35 [] (.ld (.t 34))) (.c (.e (some 36) [] (.call true 233 [(.t 33), (.t 35), (.c (.int .i64 8))])) (.c (.q 4 [] (.mv (.t 36))) .nil)))))) .skip)
def t170_2 := b170_2
theorem u170_2 : vcK P t170_2 k e w = vcK P b170_2 k e w := rfl
abbrev b170_3 : X := (.cond (.t 22) (.reg [4] (.c (.q 24 [] (.mv (.t 4))) (.c (.q 25 [] (.mv (.t 0))) (.c (.q 26 [] (.mv (.t 4))) (.c (.q 27 [] (.lens (.t 26))) (.c (.e (some 28) [] (.call true 148 [(.t 25), (.t 27)])) (.c (.q 29 [] (.bin .add (.c (.int .i64 1)) (.t 28))) (.c (.q 30 [] (.ssl 1 (.t 24) none (some (.t 29)))) (.c (.q 4 [] (.mv (.t 30))) .nil))))))))) (.seq (.reg [0, 3, 4, 31] (.c (.q 32 [] (.bin .eql (.t 15) (.c (.int .i64 2)))) (.c (.q 31 [] (.mv (.t 32))) .nil))) t170_2))
def t170_3 := b170_3
theorem u170_3 : vcK P t170_3 k e w = vcK P b170_3 k e w := rfl
abbrev b170_4 : X := (.cond (.t 16) (.reg [4] (.c (.q 18 [] (.mv (.t 4))) (.c (.e (some 19) [] (.call false 183 [(.t 18)])) (.c (.q 20 [] (.mv (.t 4))) (.c (.e (some 21) [] (.app 24 9 1 16 [(S [])] 24 (.t 19) (.t 20))) (.c (.q 4 [] (.mv (.t 21))) .nil)))))) (.seq (.reg [0, 3, 4, 15, 22] (.c (.q 23 [] (.bin .eql (.t 15) (.c (.int .i64 1)))) (.c (.q 22 [] (.mv (.t 23))) .nil))) t170_3))
def t170_4 := b170_4
theorem u170_4 : vcK P t170_4 k e w = vcK P b170_4 k e w := rfl
abbrev b170_5 : X := (.blk 0 (.seq (.reg [0, 3, 4, 15, 16] (.c (.q 17 [] (.bin .eql (.t 15) (.c (.int .i64 0)))) (.c (.q 16 [] (.mv (.t 17))) .nil))) t170_4))
def t170_5 := b170_5
theorem u170_5 : vcK P t170_5 k e w = vcK P b170_5 k e w := rfl
abbrev b170_6 : X := (.seq (.reg [2] (.c (.q 37 [] (.mv (.t 4))) (.c (.q 2 [] (.mv (.t 37))) .nil))) .ret)
def t170_6 := b170_6
theorem u170_6 : vcK P t170_6 k e w = vcK P b170_6 k e w := rfl
abbrev b170_7 : X := (.seq (.seq (.reg [0, 3, 4, 15] (.c (.q 14 [] (.mv (.t 0))) (.c (.e (some 15) [] (.call true 148 [(.t 14), (.c (.int .i64 6))])) .nil))) t170_5) t170_6)
def t170_7 := b170_7
theorem u170_7 : vcK P t170_7 k e w = vcK P b170_7 k e w := rfl
abbrev b170_8 : X := (.seq (.seq (.reg [0, 3, 4, 11] (.c (.q 9 [] (.mv (.t 4))) (.c (.q 10 [] (.lens (.t 9))) (.c (.q 11 [] (.bin .gtr (.t 10) (.c (.int .i64 200)))) .nil)))) t170_1) t170_7)
def t170_8 := b170_8
theorem u170_8 : vcK P t170_8 k e w = vcK P b170_8 k e w := rfl
abbrev b170_9 : X := (.seq (.reg [0, 3, 4] (.c (.q 7 [] (.lda 3 (.t 3))) (.c (.e (some 8) [] (.call false 273 [(.t 7)])) (.c (.q 4 [] (.mv (.t 8))) .nil)))) t170_8)
def t170_9 := b170_9
theorem u170_9 : vcK P t170_9 k e w = vcK P b170_9 k e w := rfl
abbrev b170_10 : X := (.seq (.reg [0, 3] (.c (.q 5 [] (.mv (.t 0))) (.c (.e (some 6) [] (.call true 147 [(.t 5)])) (.c (.e (some 3) [] (.al 26 [(S []), (.int .i64 0), (.slice none 0 0)])) (.c (.e none [] (.st 3 (.t 3) (.t 6))) .nil))))) t170_9)
def t170_10 := b170_10
theorem u170_10 : vcK P t170_10 k e w = vcK P b170_10 k e w := rfl
abbrev b170_0 : X := (.seq (.reg [0] (.c (.q 2 [] (.mv (.c (.slice none 0 0)))) .nil)) t170_10)
def x_sl1Cur_rung := b170_0
theorem u170_0 : vcK P x_sl1Cur_rung k e w = vcK P b170_0 k e w := rfl
def r_sl1Cur_rung : List XO := [(.mv (.t 2))]
theorem c_sl1Cur_rung : convF Try.prog [147, 148, 152, 160, 162, 163, 170, 178, 206, 208, 210, 224, 233, 235, 236, 251, 264, 265, 268, 270, 287, 322] Try.f170 [([0], []), ([0, 3], []), ([0, 3, 4], []), ([0, 3, 4, 11], []), ([0, 3, 4], []), ([0, 3, 4, 15], []), ([0, 3, 4, 15, 16], []), ([4], []), ([0, 3, 4, 15, 22], []), ([4], []), ([0, 3, 4, 31], []), ([4], []), ([2], [])] = some (x_sl1Cur_rung, r_sl1Cur_rung) := by kernel_rfl
def us_sl1Cur_rung :=  (aI (aI (aI @u170_0 @u170_1) (aI @u170_2 (aI @u170_3 @u170_4))) (aI (aI @u170_5 (aI @u170_6 @u170_7)) (aI @u170_8 (aI @u170_9 @u170_10))))
abbrev b45_1 : X := (.seq (.reg [2] (.c (.q 7 [] (.mv (.t 3))) (.c (.e (some 8) [] (.call true 170 [(.t 7)])) (.c (.q 2 [] (.mv (.t 8))) .nil)))) .ret)
def t45_1 := b45_1
theorem u45_1 : vcK P t45_1 k e w = vcK P b45_1 k e w := rfl
abbrev b45_2 : X := (.seq (.reg [3] (.c (.q 4 [] (.mv (.t 0))) (.c (.q 5 [] (.bld [(.slice none 0 0), (.int .i64 0), (.int .u64 0)] [(0, 0, (.t 4))])) (.c (.e (some 6) [] (.box 121 (.t 5))) (.c (.q 3 [] (.mv (.t 6))) .nil))))) t45_1)
def t45_2 := b45_2
theorem u45_2 : vcK P t45_2 k e w = vcK P b45_2 k e w := rfl
abbrev b45_0 : X := (.seq (.reg [0] (.c (.q 2 [] (.mv (.c (.slice none 0 0)))) .nil)) t45_2)
def x_sDrawIsTrueList := b45_0
theorem u45_0 : vcK P x_sDrawIsTrueList k e w = vcK P b45_0 k e w := rfl
def r_sDrawIsTrueList : List XO := [(.mv (.t 2))]
theorem c_sDrawIsTrueList : convF Try.prog [147, 148, 152, 160, 162, 163, 170, 178, 206, 208, 210, 224, 233, 235, 236, 251, 264, 265, 268, 270, 287, 322] Try.f45 [([0], []), ([3], []), ([2], [])] = some (x_sDrawIsTrueList, r_sDrawIsTrueList) := by kernel_rfl
def us_sDrawIsTrueList :=  (aI @u45_0 (aI @u45_1 @u45_2))
abbrev b52_1 : X := (.cond (.t 35) (.seq (.reg [2, 3] (.c (.q 36 [] (.mv (.t 5))) (.c (.q 37 [] (.mv (.t 6))) (.c (.q 38 [] (.mv (.t 5))) (.c (.e (some 39) [] (.call false 179 [(.t 37), (.t 38)])) (.c (.q 2 [] (.mv (.t 36))) (.c (.q 3 [] (.mv (.t 39))) .nil))))))) .ret) .skip)
def t52_1 := b52_1
theorem u52_1 : vcK P t52_1 k e w = vcK P b52_1 k e w := rfl
abbrev b52_2 : X := (.seq (.reg [4, 5, 6, 35] (.c (.q 29 [] (.mv (.t 6))) (.c (.q 30 [] (.len (.t 29))) (.c (.q 31 [] (.mv (.t 5))) (.c (.q 32 [] (.ia 1 (.t 31) (.c (.int .i64 0)))) (.c (.q 33 [] (.ld (.t 32))) (.c (.q 34 [] (.len (.t 33))) (.c (.q 35 [] (.bin .eql (.t 30) (.t 34))) .nil)))))))) t52_1)
def t52_2 := b52_2
theorem u52_2 : vcK P t52_2 k e w = vcK P b52_2 k e w := rfl
abbrev b52_3 : X := (.cond (.t 22) (.seq (.reg [4, 5, 6] (.c (.q 23 [] (.mv (.t 4))) (.c (.q 24 [] (.mv (.t 5))) (.c (.q 25 [] (.ia 1 (.t 24) (.c (.int .i64 0)))) (.c (.q 26 [] (.ld (.t 25))) (.c (.q 27 [] (.len (.t 26))) (.c (.e (some 28) [] (.call true 178 [(.t 23), (.t 27)])) (.c (.q 6 [] (.mv (.t 28))) .nil)))))))) t52_2) .skip)
def t52_3 := b52_3
theorem u52_3 : vcK P t52_3 k e w = vcK P b52_3 k e w := rfl
abbrev b52_4 : X := (.seq (.reg [2, 3] (.c (.q 40 [] (.mv (.t 5))) (.c (.q 41 [] (.mv (.t 4))) (.c (.e (some 42) [] (.call true 170 [(.t 41)])) (.c (.q 2 [] (.mv (.t 40))) (.c (.q 3 [] (.mv (.t 42))) .nil)))))) .ret)
def t52_4 := b52_4
theorem u52_4 : vcK P t52_4 k e w = vcK P b52_4 k e w := rfl
abbrev b52_5 : X := (.seq (.seq (.reg [4, 5, 22] (.c (.q 12 [] (.mv (.t 5))) (.c (.q 13 [] (.lens (.t 12))) (.c (.q 14 [] (.bin .gtr (.t 13) (.c (.int .i64 0)))) (.c (.q 15 [] (.mv (.t 14))) (.c (.q 16 [(15, true)] (.mv (.t 5))) (.c (.e (some 17) [(15, true)] (.call false 172 [(.t 16)])) (.c (.q 18 [] (.pick (.t 15) (.t 17) (.c (.bool false)))) (.c (.q 19 [] (.mv (.t 18))) (.c (.q 20 [(19, true)] (.mv (.t 4))) (.c (.e (some 21) [(19, true)] (.call true 160 [(.t 20), (.c (.int .i64 2))])) (.c (.q 22 [] (.pick (.t 19) (.t 21) (.c (.bool false)))) .nil)))))))))))) t52_3) t52_4)
def t52_5 := b52_5
theorem u52_5 : vcK P t52_5 k e w = vcK P b52_5 k e w := rfl
abbrev b52_6 : X := (.seq (.reg [4, 5] (.c (.q 10 [] (.mv (.t 4))) (.c (.e (some 11) [] (.call true 170 [(.t 10)])) (.c (.q 5 [] (.mv (.t 11))) .nil)))) t52_5)
def t52_6 := b52_6
theorem u52_6 : vcK P t52_6 k e w = vcK P b52_6 k e w := rfl
abbrev b52_7 : X := (.seq (.reg [4] (.c (.q 7 [] (.mv (.t 0))) (.c (.q 8 [] (.bld [(.slice none 0 0), (.int .i64 0), (.int .u64 0)] [(0, 0, (.t 7))])) (.c (.e (some 9) [] (.box 121 (.t 8))) (.c (.q 4 [] (.mv (.t 9))) .nil))))) t52_6)
def t52_7 := b52_7
theorem u52_7 : vcK P t52_7 k e w = vcK P b52_7 k e w := rfl
abbrev b52_0 : X := (.seq (.reg [0] (.c (.q 2 [] (.mv (.c (.slice none 0 0)))) (.c (.q 3 [] (.mv (.c (.slice none 0 0)))) .nil))) t52_7)
def x_sDrawMeetIn := b52_0
theorem u52_0 : vcK P x_sDrawMeetIn k e w = vcK P b52_0 k e w := rfl
def r_sDrawMeetIn : List XO := [(.mv (.t 2)), (.mv (.t 3))]
theorem c_sDrawMeetIn : convF Try.prog [147, 148, 152, 160, 162, 163, 170, 178, 206, 208, 210, 224, 233, 235, 236, 251, 264, 265, 268, 270, 287, 322] Try.f52 [([0], []), ([4], []), ([4, 5], []), ([4, 5, 22], []), ([4, 5, 6], []), ([4, 5, 6, 35], []), ([2, 3], []), ([2, 3], [])] = some (x_sDrawMeetIn, r_sDrawMeetIn) := by kernel_rfl
def us_sDrawMeetIn :=  (aI (aI (aI @u52_0 @u52_1) (aI @u52_2 @u52_3)) (aI (aI @u52_4 @u52_5) (aI @u52_6 @u52_7)))
abbrev b55_1 : X := (.seq (.reg [2, 3] (.c (.q 11 [] (.mv (.t 5))) (.c (.q 12 [] (.mv (.t 4))) (.c (.q 13 [] (.mv (.t 5))) (.c (.q 14 [] (.lens (.t 13))) (.c (.q 15 [] (.bin .add (.t 14) (.c (.int .i64 1)))) (.c (.e (some 16) [] (.call true 148 [(.t 12), (.t 15)])) (.c (.q 17 [] (.mv (.t 4))) (.c (.e (some 18) [] (.call true 148 [(.t 17), (.c (.int .i64 20))])) (.c (.q 19 [] (.bin .quo (.t 18) (.c (.int .i64 19)))) (.c (.q 20 [] (.bin .sub (.t 16) (.t 19))) (.c (.q 2 [] (.mv (.t 11))) (.c (.q 3 [] (.mv (.t 20))) .nil))))))))))))) .ret)
def t55_1 := b55_1
theorem u55_1 : vcK P t55_1 k e w = vcK P b55_1 k e w := rfl
abbrev b55_2 : X := (.seq (.reg [4, 5] (.c (.q 9 [] (.mv (.t 4))) (.c (.e (some 10) [] (.call true 170 [(.t 9)])) (.c (.q 5 [] (.mv (.t 10))) .nil)))) t55_1)
def t55_2 := b55_2
theorem u55_2 : vcK P t55_2 k e w = vcK P b55_2 k e w := rfl
abbrev b55_3 : X := (.seq (.reg [4] (.c (.q 6 [] (.mv (.t 0))) (.c (.q 7 [] (.bld [(.slice none 0 0), (.int .i64 0), (.int .u64 0)] [(0, 0, (.t 6))])) (.c (.e (some 8) [] (.box 121 (.t 7))) (.c (.q 4 [] (.mv (.t 8))) .nil))))) t55_2)
def t55_3 := b55_3
theorem u55_3 : vcK P t55_3 k e w = vcK P b55_3 k e w := rfl
abbrev b55_0 : X := (.seq (.reg [0] (.c (.q 2 [] (.mv (.c (.slice none 0 0)))) (.c (.q 3 [] (.mv (.c (.int .i64 0)))) .nil))) t55_3)
def x_sDrawTurnList := b55_0
theorem u55_0 : vcK P x_sDrawTurnList k e w = vcK P b55_0 k e w := rfl
def r_sDrawTurnList : List XO := [(.mv (.t 2)), (.mv (.t 3))]
theorem c_sDrawTurnList : convF Try.prog [147, 148, 152, 160, 162, 163, 170, 178, 206, 208, 210, 224, 233, 235, 236, 251, 264, 265, 268, 270, 287, 322] Try.f55 [([0], []), ([4], []), ([4, 5], []), ([2, 3], [])] = some (x_sDrawTurnList, r_sDrawTurnList) := by kernel_rfl
def us_sDrawTurnList :=  (aI (aI @u55_0 @u55_1) (aI @u55_2 @u55_3))
abbrev b18_1 : X := (.cond (.t 10) (.seq (.reg [4] (.c (.q 4 [] (.mv (.c (.bool false)))) .nil)) .ret) .skip)
def t18_1 := b18_1
theorem u18_1 : vcK P t18_1 k e w = vcK P b18_1 k e w := rfl
abbrev b18_2 : X := (.cond (.t 25) (.seq (.reg [4] (.c (.q 4 [] (.mv (.c (.bool false)))) .nil)) .ret) .skip)
def t18_2 := b18_2
theorem u18_2 : vcK P t18_2 k e w = vcK P b18_2 k e w := rfl
abbrev b18_3 : X := (.seq (.drw [0, 1, 12, 13, 25] (.c (.q 16 [] (.mv (.t 0))) (.c (.q 17 [] (.mv (.t 5))) (.c (.q 18 [] (.ia 1 (.t 16) (.t 17))) (.c (.q 19 [] (.ld (.t 18))) (.c (.q 20 [] (.mv (.t 1))) (.c (.q 21 [] (.mv (.t 5))) (.c (.q 22 [] (.ia 1 (.t 20) (.t 21))) (.c (.q 23 [] (.ld (.t 22))) (.c (.e (some 24) [] (.call false 26 [(.t 19), (.t 23)])) (.c (.q 25 [] (.not (.t 24))) .nil))))))))))) t18_2)
def t18_3 := b18_3
theorem u18_3 : vcK P t18_3 k e w = vcK P b18_3 k e w := rfl
abbrev b18_4 : X := (.reg [0, 1, 12, 13] (.c (.q 26 [] (.bin .add (.t 13) (.c (.int .i64 1)))) (.c (.q 13 [] (.mv (.t 26))) .nil)))
def t18_4 := b18_4
theorem u18_4 : vcK P t18_4 k e w = vcK P b18_4 k e w := rfl
abbrev b18_5 : X := (.seq (.blk 1 (.seq (.reg [0, 1, 5, 12, 13] (.c (.q 15 [] (.mv (.t 13))) (.c (.q 5 [] (.mv (.t 15))) .nil))) t18_3)) t18_4)
def t18_5 := b18_5
theorem u18_5 : vcK P t18_5 k e w = vcK P b18_5 k e w := rfl
abbrev b18_6 : X := (.seq (.cond (.t 14) .skip (.exit 0)) t18_5)
def t18_6 := b18_6
theorem u18_6 : vcK P t18_6 k e w = vcK P b18_6 k e w := rfl
abbrev b18_7 : X := (.seq (.reg [0, 1, 12, 13, 14] (.c (.q 14 [] (.bin .lss (.t 13) (.t 12))) .nil)) t18_6)
def t18_7 := b18_7
theorem u18_7 : vcK P t18_7 k e w = vcK P b18_7 k e w := rfl
abbrev b18_8 : X := (.blk 0 (.loop [13] [0, 1, 12] t18_7))
def t18_8 := b18_8
theorem u18_8 : vcK P t18_8 k e w = vcK P b18_8 k e w := rfl
abbrev b18_9 : X := (.seq (.reg [4] (.c (.q 4 [] (.mv (.c (.bool true)))) .nil)) .ret)
def t18_9 := b18_9
theorem u18_9 : vcK P t18_9 k e w = vcK P b18_9 k e w := rfl
abbrev b18_10 : X := (.seq (.seq (.reg [0, 1, 12, 13] (.c (.q 11 [] (.mv (.t 0))) (.c (.q 12 [] (.lens (.t 11))) (.c (.q 13 [] (.mv (.c (.int .i64 0)))) .nil)))) t18_8) t18_9)
def t18_10 := b18_10
theorem u18_10 : vcK P t18_10 k e w = vcK P b18_10 k e w := rfl
abbrev b18_11 : X := (.seq (.seq (.reg [0, 1, 10] (.c (.q 6 [] (.mv (.t 0))) (.c (.q 7 [] (.lens (.t 6))) (.c (.q 8 [] (.mv (.t 1))) (.c (.q 9 [] (.lens (.t 8))) (.c (.q 10 [] (.bin .neq (.t 7) (.t 9))) .nil)))))) t18_1) t18_10)
def t18_11 := b18_11
theorem u18_11 : vcK P t18_11 k e w = vcK P b18_11 k e w := rfl
abbrev b18_0 : X := (.seq (.reg [0, 1] (.c (.q 4 [] (.mv (.c (.bool false)))) .nil)) t18_11)
def x_lsameLists := b18_0
theorem u18_0 : vcK P x_lsameLists k e w = vcK P b18_0 k e w := rfl
def r_lsameLists : List XO := [(.mv (.t 4))]
theorem c_lsameLists : convF Try.prog [147, 148, 152, 160, 162, 163, 170, 178, 206, 208, 210, 224, 233, 235, 236, 251, 264, 265, 268, 270, 287, 322] Try.f18 [([0, 1], []), ([0, 1, 10], []), ([4], []), ([0, 1, 12, 13], []), ([13], [0, 1, 12]), ([0, 1, 12, 13, 14], []), ([0, 1, 5, 12, 13], []), ([0, 1, 12, 13, 25], []), ([4], []), ([0, 1, 12, 13], []), ([4], [])] = some (x_lsameLists, r_lsameLists) := by kernel_rfl
def us_lsameLists :=  (aI (aI (aI @u18_0 (aI @u18_1 @u18_2)) (aI @u18_3 (aI @u18_4 @u18_5))) (aI (aI @u18_6 (aI @u18_7 @u18_8)) (aI @u18_9 (aI @u18_10 @u18_11))))
abbrev b5_1 : X := (.cond (.t 37) (.seq (.reg [4] (.c (.q 4 [] (.mv (.c (.bool true)))) .nil)) .ret) .skip)
def t5_1 := b5_1
theorem u5_1 : vcK P t5_1 k e w = vcK P b5_1 k e w := rfl
abbrev b5_2 : X := (.cond (.t 83) (.seq (.reg [4] (.c (.q 4 [] (.mv (.c (.bool false)))) .nil)) .ret) .skip)
def t5_2 := b5_2
theorem u5_2 : vcK P t5_2 k e w = vcK P b5_2 k e w := rfl
abbrev b5_3 : X := (.cond (.t 89) (.seq (.reg [4] (.c (.q 4 [] (.mv (.c (.bool false)))) .nil)) .ret) .skip)
def t5_3 := b5_3
theorem u5_3 : vcK P t5_3 k e w = vcK P b5_3 k e w := rfl
abbrev b5_4 : X := (.cond (.t 136) (.seq (.reg [4] (.c (.q 4 [] (.mv (.c (.bool false)))) .nil)) .ret) .skip)
def t5_4 := b5_4
theorem u5_4 : vcK P t5_4 k e w = vcK P b5_4 k e w := rfl
abbrev b5_5 : X := (.seq (.drw [1, 5, 6, 90, 91, 92, 136] (.c (.q 96 [] (.mv (.t 15))) (.c (.q 97 [] (.lens (.t 96))) (.c (.q 98 [] (.bin .neq (.t 97) (.c (.int .i64 2)))) (.c (.q 99 [] (.mv (.t 98))) (.c (.q 100 [(99, false)] (.mv (.t 15))) (.c (.q 101 [(99, false)] (.ia 1 (.t 100) (.c (.int .i64 0)))) (.c (.q 102 [(99, false)] (.ld (.t 101))) (.c (.q 103 [(99, false)] (.bin .lss (.t 102) (.c (.int .i64 0)))) (.c (.q 104 [] (.pick (.t 99) (.c (.bool true)) (.t 103))) (.c (.q 105 [] (.mv (.t 104))) (.c (.q 106 [(105, false)] (.mv (.t 15))) (.c (.q 107 [(105, false)] (.ia 1 (.t 106) (.c (.int .i64 0)))) (.c (.q 108 [(105, false)] (.ld (.t 107))) (.c (.q 109 [(105, false)] (.mv (.t 15))) (.c (.q 110 [(105, false)] (.ia 1 (.t 109) (.c (.int .i64 1)))) (.c (.q 111 [(105, false)] (.ld (.t 110))) (.c (.q 112 [(105, false)] (.bin .geq (.t 108) (.t 111))) (.c (.q 113 [] (.pick (.t 105) (.c (.bool true)) (.t 112))) (.c (.q 114 [] (.mv (.t 113))) (.c (.q 115 [(114, false)] (.mv (.t 15))) (.c (.q 116 [(114, false)] (.ia 1 (.t 115) (.c (.int .i64 1)))) (.c (.q 117 [(114, false)] (.ld (.t 116))) (.c (.q 118 [(114, false)] (.mv (.t 5))) (.c (.q 119 [(114, false)] (.lens (.t 118))) (.c (.q 120 [(114, false)] (.bin .geq (.t 117) (.t 119))) (.c (.q 121 [] (.pick (.t 114) (.c (.bool true)) (.t 120))) (.c (.q 122 [] (.mv (.t 121))) (.c (.q 123 [(122, false)] (.mv (.t 5))) (.c (.q 124 [(122, false)] (.mv (.t 15))) (.c (.q 125 [(122, false)] (.ia 1 (.t 124) (.c (.int .i64 0)))) (.c (.q 126 [(122, false)] (.ld (.t 125))) (.c (.q 127 [(122, false)] (.ia 1 (.t 123) (.t 126))) (.c (.q 128 [(122, false)] (.ld (.t 127))) (.c (.q 129 [(122, false)] (.mv (.t 5))) (.c (.q 130 [(122, false)] (.mv (.t 15))) (.c (.q 131 [(122, false)] (.ia 1 (.t 130) (.c (.int .i64 1)))) (.c (.q 132 [(122, false)] (.ld (.t 131))) (.c (.q 133 [(122, false)] (.ia 1 (.t 129) (.t 132))) (.c (.q 134 [(122, false)] (.ld (.t 133))) (.c (.q 135 [(122, false)] (.bin .neq (.t 128) (.t 134))) (.c (.q 136 [] (.pick (.t 122) (.c (.bool true)) (.t 135))) .nil)))))))))))))))))))))))))))))))))))))))))) t5_4)
def t5_5 := b5_5
theorem u5_5 : vcK P t5_5 k e w = vcK P b5_5 k e w := rfl
abbrev b5_6 : X := (.reg [1, 5, 6, 90, 91, 92] (.c (.q 137 [] (.bin .add (.t 92) (.c (.int .i64 1)))) (.c (.q 92 [] (.mv (.t 137))) .nil)))
def t5_6 := b5_6
theorem u5_6 : vcK P t5_6 k e w = vcK P b5_6 k e w := rfl
abbrev b5_7 : X := (.seq (.blk 1 (.seq (.reg [1, 5, 6, 15, 90, 91, 92] (.c (.q 94 [] (.ia 1 (.t 90) (.t 92))) (.c (.q 95 [] (.ld (.t 94))) (.c (.q 15 [] (.mv (.t 95))) .nil)))) t5_5)) t5_6)
def t5_7 := b5_7
theorem u5_7 : vcK P t5_7 k e w = vcK P b5_7 k e w := rfl
abbrev b5_8 : X := (.seq (.cond (.t 93) .skip (.exit 0)) t5_7)
def t5_8 := b5_8
theorem u5_8 : vcK P t5_8 k e w = vcK P b5_8 k e w := rfl
abbrev b5_9 : X := (.seq (.reg [1, 5, 6, 90, 91, 92, 93] (.c (.q 93 [] (.bin .lss (.t 92) (.t 91))) .nil)) t5_8)
def t5_9 := b5_9
theorem u5_9 : vcK P t5_9 k e w = vcK P b5_9 k e w := rfl
abbrev b5_10 : X := (.blk 0 (.loop [92] [1, 5, 6, 90, 91] t5_9))
def t5_10 := b5_10
theorem u5_10 : vcK P t5_10 k e w = vcK P b5_10 k e w := rfl
abbrev b5_11 : X := (.cond (.t 174) (.seq (.reg [4] (.c (.q 4 [] (.mv (.c (.bool false)))) .nil)) .ret) .skip)
def t5_11 := b5_11
theorem u5_11 : vcK P t5_11 k e w = vcK P b5_11 k e w := rfl
abbrev b5_12 : X := (.seq (.reg [1, 174] (.c (.q 157 [] (.mv (.t 18))) (.c (.q 158 [] (.not (.t 157))) (.c (.q 159 [] (.mv (.t 158))) (.c (.q 160 [(159, false)] (.mv (.t 17))) (.c (.q 161 [(159, false)] (.lens (.t 160))) (.c (.q 162 [(159, false)] (.mv (.t 5))) (.c (.q 163 [(159, false)] (.lens (.t 162))) (.c (.q 164 [(159, false)] (.bin .neq (.t 161) (.t 163))) (.c (.q 165 [] (.pick (.t 159) (.c (.bool true)) (.t 164))) (.c (.q 166 [] (.mv (.t 165))) (.c (.q 167 [(166, false)] (.mv (.t 20))) (.c (.q 168 [(166, false)] (.not (.t 167))) (.c (.q 169 [] (.pick (.t 166) (.c (.bool true)) (.t 168))) (.c (.q 170 [] (.mv (.t 169))) (.c (.q 171 [(170, false)] (.mv (.t 19))) (.c (.q 172 [(170, false)] (.mv (.t 6))) (.c (.q 173 [(170, false)] (.beq true (.t 171) (.t 172))) (.c (.q 174 [] (.pick (.t 170) (.c (.bool true)) (.t 173))) .nil))))))))))))))))))) t5_11)
def t5_12 := b5_12
theorem u5_12 : vcK P t5_12 k e w = vcK P b5_12 k e w := rfl
abbrev b5_13 : X := (.seq (.reg [1, 5, 6, 17, 18, 19, 20] (.c (.q 153 [] (.mv (.t 17))) (.c (.e (some 154) [] (.call false 46 [(.t 153)])) (.c (.q 152 [] (.mv (.t 154))) (.c (.q 155 [] (.ext 0 (.t 152))) (.c (.q 156 [] (.ext 1 (.t 152))) (.c (.q 19 [] (.mv (.t 155))) (.c (.q 20 [] (.mv (.t 156))) .nil)))))))) t5_12)
def t5_13 := b5_13
theorem u5_13 : vcK P t5_13 k e w = vcK P b5_13 k e w := rfl
abbrev b5_14 : X := (.seq (.reg [1, 5, 6, 17, 18] (.c (.q 147 [] (.mv (.t 5))) (.c (.q 148 [] (.mv (.t 16))) (.c (.e (some 149) [] (.call false 51 [(.t 147), (.t 148)])) (.c (.q 146 [] (.mv (.t 149))) (.c (.q 150 [] (.ext 0 (.t 146))) (.c (.q 151 [] (.ext 1 (.t 146))) (.c (.q 17 [] (.mv (.t 150))) (.c (.q 18 [] (.mv (.t 151))) .nil))))))))) t5_13)
def t5_14 := b5_14
theorem u5_14 : vcK P t5_14 k e w = vcK P b5_14 k e w := rfl
abbrev b5_15 : X := (.cond (.t 140) (.seq (.reg [1, 5, 6, 16] (.c (.q 141 [] (.mv (.t 1))) (.c (.e (some 142) [] (.call false 50 [(.t 141)])) (.c (.q 143 [] (.mv (.t 5))) (.c (.q 144 [] (.lens (.t 143))) (.c (.q 145 [] (.bin .rem (.t 142) (.t 144))) (.c (.q 16 [] (.mv (.t 145))) .nil))))))) t5_14) .skip)
def t5_15 := b5_15
theorem u5_15 : vcK P t5_15 k e w = vcK P b5_15 k e w := rfl
abbrev b5_16 : X := (.seq (.reg [1, 5, 6, 140] (.c (.q 138 [] (.mv (.t 5))) (.c (.q 139 [] (.lens (.t 138))) (.c (.q 140 [] (.bin .gtr (.t 139) (.c (.int .i64 0)))) .nil)))) t5_15)
def t5_16 := b5_16
theorem u5_16 : vcK P t5_16 k e w = vcK P b5_16 k e w := rfl
abbrev b5_17 : X := (.seq (.seq (.reg [1, 5, 6, 90, 91, 92] (.c (.q 90 [] (.mv (.t 10))) (.c (.q 91 [] (.lens (.t 90))) (.c (.q 92 [] (.mv (.c (.int .i64 0)))) .nil)))) t5_10) t5_16)
def t5_17 := b5_17
theorem u5_17 : vcK P t5_17 k e w = vcK P b5_17 k e w := rfl
abbrev b5_18 : X := (.cond (.t 84) (.seq (.seq (.reg [1, 5, 6, 10, 89] (.c (.q 85 [] (.mv (.t 6))) (.c (.q 86 [] (.mv (.t 10))) (.c (.q 87 [] (.lens (.t 86))) (.c (.q 88 [] (.bin .eql (.t 87) (.c (.int .i64 0)))) (.c (.q 89 [] (.beq true (.t 85) (.t 88))) .nil)))))) t5_3) t5_17) .skip)
def t5_18 := b5_18
theorem u5_18 : vcK P t5_18 k e w = vcK P b5_18 k e w := rfl
abbrev b5_19 : X := (.cond (.t 228) (.seq (.reg [4] (.c (.q 4 [] (.mv (.c (.bool false)))) .nil)) .ret) .skip)
def t5_19 := b5_19
theorem u5_19 : vcK P t5_19 k e w = vcK P b5_19 k e w := rfl
abbrev b5_20 : X := (.seq (.reg [4] (.c (.q 243 [] (.mv (.t 34))) (.c (.q 244 [] (.mv (.t 243))) (.c (.q 245 [(244, true)] (.mv (.t 29))) (.c (.q 246 [(244, true)] (.ia 1 (.t 245) (.c (.int .i64 0)))) (.c (.q 247 [(244, true)] (.ld (.t 246))) (.c (.q 248 [(244, true)] (.mv (.t 33))) (.c (.q 249 [(244, true)] (.bin .eql (.t 247) (.t 248))) (.c (.q 250 [] (.pick (.t 244) (.t 249) (.c (.bool false)))) (.c (.q 4 [] (.mv (.t 250))) .nil)))))))))) .ret)
def t5_20 := b5_20
theorem u5_20 : vcK P t5_20 k e w = vcK P b5_20 k e w := rfl
abbrev b5_21 : X := (.cond (.t 234) (.seq (.reg [29, 33, 34] (.c (.q 236 [] (.mv (.t 29))) (.c (.q 237 [] (.ia 1 (.t 236) (.c (.int .i64 0)))) (.c (.q 238 [] (.ld (.t 237))) (.c (.q 239 [] (.len (.t 238))) (.c (.e (some 240) [] (.call false 20 [(.t 239)])) (.c (.q 235 [] (.mv (.t 240))) (.c (.q 241 [] (.ext 0 (.t 235))) (.c (.q 242 [] (.ext 1 (.t 235))) (.c (.q 33 [] (.mv (.t 241))) (.c (.q 34 [] (.mv (.t 242))) .nil))))))))))) t5_20) .skip)
def t5_21 := b5_21
theorem u5_21 : vcK P t5_21 k e w = vcK P b5_21 k e w := rfl
abbrev b5_22 : X := (.seq (.reg [4] (.c (.q 4 [] (.mv (.c (.bool true)))) .nil)) .ret)
def t5_22 := b5_22
theorem u5_22 : vcK P t5_22 k e w = vcK P b5_22 k e w := rfl
abbrev b5_23 : X := (.seq (.seq (.reg [29, 234] (.c (.q 229 [] (.mv (.t 30))) (.c (.q 230 [] (.mv (.t 229))) (.c (.q 231 [(230, true)] (.mv (.t 29))) (.c (.q 232 [(230, true)] (.lens (.t 231))) (.c (.q 233 [(230, true)] (.bin .gtr (.t 232) (.c (.int .i64 0)))) (.c (.q 234 [] (.pick (.t 230) (.t 233) (.c (.bool false)))) .nil))))))) t5_21) t5_22)
def t5_23 := b5_23
theorem u5_23 : vcK P t5_23 k e w = vcK P b5_23 k e w := rfl
abbrev b5_24 : X := (.seq (.seq (.reg [29, 30, 228] (.c (.q 209 [] (.mv (.t 24))) (.c (.q 210 [] (.mv (.t 26))) (.c (.q 211 [] (.beq true (.t 209) (.t 210))) (.c (.q 212 [] (.mv (.t 211))) (.c (.q 213 [(212, false)] (.mv (.t 23))) (.c (.q 214 [(212, false)] (.mv (.t 25))) (.c (.e (some 215) [(212, false)] (.call false 23 [(.t 213), (.t 214)])) (.c (.q 216 [(212, false)] (.not (.t 215))) (.c (.q 217 [] (.pick (.t 212) (.c (.bool true)) (.t 216))) (.c (.q 218 [] (.mv (.t 217))) (.c (.q 219 [(218, false)] (.mv (.t 30))) (.c (.q 220 [(218, false)] (.mv (.t 32))) (.c (.q 221 [(218, false)] (.beq true (.t 219) (.t 220))) (.c (.q 222 [] (.pick (.t 218) (.c (.bool true)) (.t 221))) (.c (.q 223 [] (.mv (.t 222))) (.c (.q 224 [(223, false)] (.mv (.t 29))) (.c (.q 225 [(223, false)] (.mv (.t 31))) (.c (.e (some 226) [(223, false)] (.call false 23 [(.t 224), (.t 225)])) (.c (.q 227 [(223, false)] (.not (.t 226))) (.c (.q 228 [] (.pick (.t 223) (.c (.bool true)) (.t 227))) .nil))))))))))))))))))))) t5_19) t5_23)
def t5_24 := b5_24
theorem u5_24 : vcK P t5_24 k e w = vcK P b5_24 k e w := rfl
abbrev b5_25 : X := (.seq (.reg [23, 24, 25, 26, 29, 30, 31, 32] (.c (.q 204 [] (.mv (.t 27))) (.c (.q 205 [] (.mv (.t 28))) (.c (.e (some 206) [] (.call false 56 [(.t 204), (.t 205)])) (.c (.q 203 [] (.mv (.t 206))) (.c (.q 207 [] (.ext 0 (.t 203))) (.c (.q 208 [] (.ext 1 (.t 203))) (.c (.q 31 [] (.mv (.t 207))) (.c (.q 32 [] (.mv (.t 208))) .nil))))))))) t5_24)
def t5_25 := b5_25
theorem u5_25 : vcK P t5_25 k e w = vcK P b5_25 k e w := rfl
abbrev b5_26 : X := (.seq (.reg [23, 24, 25, 26, 27, 28, 29, 30] (.c (.q 198 [] (.mv (.t 27))) (.c (.q 199 [] (.mv (.t 28))) (.c (.e (some 200) [] (.call false 51 [(.t 198), (.t 199)])) (.c (.q 197 [] (.mv (.t 200))) (.c (.q 201 [] (.ext 0 (.t 197))) (.c (.q 202 [] (.ext 1 (.t 197))) (.c (.q 29 [] (.mv (.t 201))) (.c (.q 30 [] (.mv (.t 202))) .nil))))))))) t5_25)
def t5_26 := b5_26
theorem u5_26 : vcK P t5_26 k e w = vcK P b5_26 k e w := rfl
abbrev b5_27 : X := (.seq (.reg [23, 24, 25, 26, 27, 28] (.c (.q 193 [] (.mv (.t 1))) (.c (.e (some 194) [] (.call false 55 [(.t 193)])) (.c (.q 192 [] (.mv (.t 194))) (.c (.q 195 [] (.ext 0 (.t 192))) (.c (.q 196 [] (.ext 1 (.t 192))) (.c (.q 27 [] (.mv (.t 195))) (.c (.q 28 [] (.mv (.t 196))) .nil)))))))) t5_26)
def t5_27 := b5_27
theorem u5_27 : vcK P t5_27 k e w = vcK P b5_27 k e w := rfl
abbrev b5_28 : X := (.seq (.reg [1, 23, 24, 25, 26] (.c (.q 187 [] (.mv (.t 21))) (.c (.q 188 [] (.mv (.t 22))) (.c (.e (some 189) [] (.call false 54 [(.t 187), (.t 188)])) (.c (.q 186 [] (.mv (.t 189))) (.c (.q 190 [] (.ext 0 (.t 186))) (.c (.q 191 [] (.ext 1 (.t 186))) (.c (.q 25 [] (.mv (.t 190))) (.c (.q 26 [] (.mv (.t 191))) .nil))))))))) t5_27)
def t5_28 := b5_28
theorem u5_28 : vcK P t5_28 k e w = vcK P b5_28 k e w := rfl
abbrev b5_29 : X := (.seq (.reg [1, 21, 22, 23, 24] (.c (.q 181 [] (.mv (.t 21))) (.c (.q 182 [] (.mv (.t 22))) (.c (.e (some 183) [] (.call false 53 [(.t 181), (.t 182)])) (.c (.q 180 [] (.mv (.t 183))) (.c (.q 184 [] (.ext 0 (.t 180))) (.c (.q 185 [] (.ext 1 (.t 180))) (.c (.q 23 [] (.mv (.t 184))) (.c (.q 24 [] (.mv (.t 185))) .nil))))))))) t5_28)
def t5_29 := b5_29
theorem u5_29 : vcK P t5_29 k e w = vcK P b5_29 k e w := rfl
abbrev b5_30 : X := (.seq (.reg [1, 21, 22] (.c (.q 176 [] (.mv (.t 1))) (.c (.e (some 177) [] (.call false 52 [(.t 176)])) (.c (.q 175 [] (.mv (.t 177))) (.c (.q 178 [] (.ext 0 (.t 175))) (.c (.q 179 [] (.ext 1 (.t 175))) (.c (.q 21 [] (.mv (.t 178))) (.c (.q 22 [] (.mv (.t 179))) .nil)))))))) t5_29)
def t5_30 := b5_30
theorem u5_30 : vcK P t5_30 k e w = vcK P b5_30 k e w := rfl
abbrev b5_31 : X := (.seq (.seq (.reg [1, 5, 6, 10, 84] (.c (.q 84 [] (.mv (.t 7))) .nil)) t5_18) t5_30)
def t5_31 := b5_31
theorem u5_31 : vcK P t5_31 k e w = vcK P b5_31 k e w := rfl
abbrev b5_32 : X := (.seq (.seq (.reg [1, 5, 6, 7, 10, 83] (.c (.q 60 [] (.mv (.t 7))) (.c (.q 61 [] (.mv (.t 9))) (.c (.q 62 [] (.beq true (.t 60) (.t 61))) (.c (.q 63 [] (.mv (.t 62))) (.c (.q 64 [(63, false)] (.mv (.t 6))) (.c (.q 65 [(63, false)] (.mv (.t 8))) (.c (.q 66 [(63, false)] (.beq true (.t 64) (.t 65))) (.c (.q 67 [] (.pick (.t 63) (.c (.bool true)) (.t 66))) (.c (.q 68 [] (.mv (.t 67))) (.c (.q 69 [(68, false)] (.mv (.t 11))) (.c (.q 70 [(68, false)] (.mv (.t 13))) (.c (.q 71 [(68, false)] (.beq true (.t 69) (.t 70))) (.c (.q 72 [] (.pick (.t 68) (.c (.bool true)) (.t 71))) (.c (.q 73 [] (.mv (.t 72))) (.c (.q 74 [(73, false)] (.mv (.t 10))) (.c (.q 75 [(73, false)] (.mv (.t 12))) (.c (.e (some 76) [(73, false)] (.call false 18 [(.t 74), (.t 75)])) (.c (.q 77 [(73, false)] (.not (.t 76))) (.c (.q 78 [] (.pick (.t 73) (.c (.bool true)) (.t 77))) (.c (.q 79 [] (.mv (.t 78))) (.c (.q 80 [(79, false)] (.mv (.t 7))) (.c (.q 81 [(79, false)] (.mv (.t 11))) (.c (.q 82 [(79, false)] (.beq true (.t 80) (.t 81))) (.c (.q 83 [] (.pick (.t 79) (.c (.bool true)) (.t 82))) .nil))))))))))))))))))))))))) t5_2) t5_31)
def t5_32 := b5_32
theorem u5_32 : vcK P t5_32 k e w = vcK P b5_32 k e w := rfl
abbrev b5_33 : X := (.seq (.reg [1, 5, 6, 7, 8, 9, 10, 11, 12, 13] (.c (.q 56 [] (.mv (.t 5))) (.c (.e (some 57) [] (.call false 49 [(.t 56)])) (.c (.q 55 [] (.mv (.t 57))) (.c (.q 58 [] (.ext 0 (.t 55))) (.c (.q 59 [] (.ext 1 (.t 55))) (.c (.q 12 [] (.mv (.t 58))) (.c (.q 13 [] (.mv (.t 59))) .nil)))))))) t5_32)
def t5_33 := b5_33
theorem u5_33 : vcK P t5_33 k e w = vcK P b5_33 k e w := rfl
abbrev b5_34 : X := (.seq (.reg [1, 5, 6, 7, 8, 9, 10, 11] (.c (.q 51 [] (.mv (.t 5))) (.c (.e (some 52) [] (.call false 48 [(.t 51)])) (.c (.q 50 [] (.mv (.t 52))) (.c (.q 53 [] (.ext 0 (.t 50))) (.c (.q 54 [] (.ext 1 (.t 50))) (.c (.q 10 [] (.mv (.t 53))) (.c (.q 11 [] (.mv (.t 54))) .nil)))))))) t5_33)
def t5_34 := b5_34
theorem u5_34 : vcK P t5_34 k e w = vcK P b5_34 k e w := rfl
abbrev b5_35 : X := (.seq (.reg [1, 5, 6, 7, 8, 9] (.c (.q 46 [] (.mv (.t 5))) (.c (.e (some 47) [] (.call false 47 [(.t 46)])) (.c (.q 45 [] (.mv (.t 47))) (.c (.q 48 [] (.ext 0 (.t 45))) (.c (.q 49 [] (.ext 1 (.t 45))) (.c (.q 8 [] (.mv (.t 48))) (.c (.q 9 [] (.mv (.t 49))) .nil)))))))) t5_34)
def t5_35 := b5_35
theorem u5_35 : vcK P t5_35 k e w = vcK P b5_35 k e w := rfl
abbrev b5_36 : X := (.seq (.reg [1, 5, 6, 7] (.c (.q 41 [] (.mv (.t 5))) (.c (.e (some 42) [] (.call false 46 [(.t 41)])) (.c (.q 40 [] (.mv (.t 42))) (.c (.q 43 [] (.ext 0 (.t 40))) (.c (.q 44 [] (.ext 1 (.t 40))) (.c (.q 6 [] (.mv (.t 43))) (.c (.q 7 [] (.mv (.t 44))) .nil)))))))) t5_35)
def t5_36 := b5_36
theorem u5_36 : vcK P t5_36 k e w = vcK P b5_36 k e w := rfl
abbrev b5_37 : X := (.seq (.reg [1, 5] (.c (.q 38 [] (.mv (.t 0))) (.c (.e (some 39) [] (.call false 45 [(.t 38)])) (.c (.q 5 [] (.mv (.t 39))) .nil)))) t5_36)
def t5_37 := b5_37
theorem u5_37 : vcK P t5_37 k e w = vcK P b5_37 k e w := rfl
abbrev b5_38 : X := (.seq (.seq (.reg [0, 1, 37] (.c (.q 35 [] (.mv (.t 0))) (.c (.q 36 [] (.mv (.t 1))) (.c (.e (some 37) [] (.call false 14 [(.t 35), (.t 36)])) .nil)))) t5_1) t5_37)
def t5_38 := b5_38
theorem u5_38 : vcK P t5_38 k e w = vcK P b5_38 k e w := rfl
abbrev b5_0 : X := (.seq (.reg [0, 1] (.c (.q 4 [] (.mv (.c (.bool false)))) .nil)) t5_38)
def x_lFnTrueLists := b5_0
theorem u5_0 : vcK P x_lFnTrueLists k e w = vcK P b5_0 k e w := rfl
def r_lFnTrueLists : List XO := [(.mv (.t 4))]
theorem c_lFnTrueLists : convF Try.prog [147, 148, 152, 160, 162, 163, 170, 178, 206, 208, 210, 224, 233, 235, 236, 251, 264, 265, 268, 270, 287, 322] Try.f5 [([0, 1], []), ([0, 1, 37], []), ([4], []), ([1, 5], []), ([1, 5, 6, 7], []), ([1, 5, 6, 7, 8, 9], []), ([1, 5, 6, 7, 8, 9, 10, 11], []), ([1, 5, 6, 7, 8, 9, 10, 11, 12, 13], []), ([1, 5, 6, 7, 10, 83], []), ([4], []), ([1, 5, 6, 10, 84], []), ([1, 5, 6, 10, 89], []), ([4], []), ([1, 5, 6, 90, 91, 92], []), ([92], [1, 5, 6, 90, 91]), ([1, 5, 6, 90, 91, 92, 93], []), ([1, 5, 6, 15, 90, 91, 92], []), ([1, 5, 6, 90, 91, 92, 136], []), ([4], []), ([1, 5, 6, 90, 91, 92], []), ([1, 5, 6, 140], []), ([1, 5, 6, 16], []), ([1, 5, 6, 17, 18], []), ([1, 5, 6, 17, 18, 19, 20], []), ([1, 174], []), ([4], []), ([1, 21, 22], []), ([1, 21, 22, 23, 24], []), ([1, 23, 24, 25, 26], []), ([23, 24, 25, 26, 27, 28], []), ([23, 24, 25, 26, 27, 28, 29, 30], []), ([23, 24, 25, 26, 29, 30, 31, 32], []), ([29, 30, 228], []), ([4], []), ([29, 234], []), ([29, 33, 34], []), ([4], []), ([4], [])] = some (x_lFnTrueLists, r_lFnTrueLists) := by kernel_rfl
def us_lFnTrueLists :=  (aI (aI (aI (aI (aI @u5_0 @u5_1) (aI @u5_2 @u5_3)) (aI (aI @u5_4 @u5_5) (aI @u5_6 (aI @u5_7 @u5_8)))) (aI (aI (aI @u5_9 @u5_10) (aI @u5_11 (aI @u5_12 @u5_13))) (aI (aI @u5_14 @u5_15) (aI @u5_16 (aI @u5_17 @u5_18))))) (aI (aI (aI (aI @u5_19 @u5_20) (aI @u5_21 (aI @u5_22 @u5_23))) (aI (aI @u5_24 @u5_25) (aI @u5_26 (aI @u5_27 @u5_28)))) (aI (aI (aI @u5_29 @u5_30) (aI @u5_31 (aI @u5_32 @u5_33))) (aI (aI @u5_34 @u5_35) (aI @u5_36 (aI @u5_37 @u5_38))))))
end

/-- What is read of a drawn list stays where the cursor goes on. -/
def HeldR (b : Nat) (w : World) (r : Value) (l : List Bs) : Prop := ∀ w', w.grownBy w' (some b) → Sq fS 1 w' r l
theorem HeldR.of {b B : Nat} {w : World} {r : Value} {l : List Bs} (h : Own fS 1 9 B w r l) (hb : b < B) : HeldR b w r l := fun w' hg => (h.keep hg fun c hc => by rw [← Option.some.inj hc]; exact hb).sq
theorem HeldR.go {b : Nat} {w w' : World} {r : Value} {l : List Bs} (h : HeldR b w r l) (hg : w.grownBy w' (some b)) : HeldR b w' r l := fun w'' hg' => h w'' (grown_trans hg hg')
theorem HeldR.sq {b : Nat} {w : World} {r : Value} {l : List Bs} (h : HeldR b w r l) : Sq fS 1 w r l := h w (grown_refl _ _)
theorem sl1Cur_rung_ok (W : World) (b n : Nat) (w : World) (hn : n ≤ 600000000) (hc : Cur W b n w) : CurFn 170 [cV b] W b n 2000 w (fun r w' => ∃ l : List Bs, HeldR b w' r l ∧ l.length ≤ 400) := by
  (refine callsV_of mix Try.func170 c_sl1Cur_rung ?_; simp only [↓vsd, vsn, gW, qd, qv, ev, pick, argE, zipE, ne_eq, eq_self, forall_const, implies_true, if_true, if_false, reduceIte, reduceCtorEq, Nat.reduceEqDiff, Nat.reduceAdd, Nat.reduceLT, ↓us_sl1Cur_rung, r_sl1Cur_rung])
  have hlt := hc.lt
  refine m_callw (.inl rfl) (sl1Cur_method_ok W b n w (by omega) hc) ?_
  rintro _ w2 ⟨hc2, hg2, nm, st, x, cs, rfl, ho2, hm, hst6⟩
  obtain ⟨m, rfl⟩ : ∃ m : Nat, st = m := ⟨st.toNat, by have := hm.2.1; omega⟩
  have hm8 := hm.2.1
  have hcl := hm.2.2.1
  obtain ⟨k, hO⟩ := ord_exists (hdL_row (n := m) (by omega) cs).1
  simp only [↓vsd, vsn, gW, qd, qv, ev, pick, argE, zipE, ne_eq, eq_self, forall_const, implies_true, if_true, if_false, reduceIte, reduceCtorEq, Nat.reduceEqDiff, Nat.reduceAdd, Nat.reduceLT, ↓us_sl1Cur_rung, r_sl1Cur_rung]
  refine m_al ?_
  rintro b3 w3 hb3 hblk3 hx3 hs3
  have hlt2 := hc2.lt
  simp only [↓vsd, vsn, gW, qd, qv, ev, pick, argE, zipE, ne_eq, eq_self, forall_const, implies_true, if_true, if_false, reduceIte, reduceCtorEq, Nat.reduceEqDiff, Nat.reduceAdd, Nat.reduceLT, ↓us_sl1Cur_rung, r_sl1Cur_rung]
  refine m_st hblk3 rfl (Nat.le_refl 3) (fM_one nm m _ ho2.sq.one') ?_
  rintro w4 hblk4 hu4
  have hb4 : Blk w4 b3 (fM nm m x) 26 := hblk4
  have ho4 := (ho2.ext hx3).upd hu4 (ho2.away (by omega))
  have hg24 : w2.grownBy w4 (some b3) := grown_trans (grown_ext _ hx3) hu4.grown
  have hg04 : w.grownBy w4 (some b) := grown_new hg2 hg24 (fun c hc => by have := Option.some.inj hc; have := hg2.size; omega)
  have hc4 := hc2.keep hg24 (fun c hc => by have := Option.some.inj hc; omega)
  simp only [↓vsd, vsn, gW, qd, qv, ev, pick, argE, zipE, ne_eq, eq_self, forall_const, implies_true, if_true, if_false, reduceIte, reduceCtorEq, Nat.reduceEqDiff, Nat.reduceAdd, Nat.reduceLT, ↓us_sl1Cur_rung, r_sl1Cur_rung, hb4.facts, fMg]
  refine m_call (sl4Course_ok nm m x cs k hm hO _ ho4.sq) ?_
  rintro y w5 hx5 ho5
  have hlen : (courseT m cs k).length ≤ 840 * 40 := by
    have h1 : (courseT m cs k).length = k * cs.length := by rw [courseT, leadsL_len]; simp
    rw [h1]; exact Nat.mul_le_mul hO.2.1 hcl.2
  have hC1 : 1 ≤ (courseT m cs k).length := by
    have h1 : (courseT m cs k).length = k * cs.length := by rw [courseT, leadsL_len]; simp
    rw [h1]; exact Nat.mul_le_mul hO.1 hcl.1
  generalize courseT m cs k = C at *
  have hc5 := hc4.ext hx5
  have hb5 := hb4.ext hx5
  have hg05 := grown_trans hg04 (grown_ext (some b) hx5)
  have hbB : b < w4.heap.size := hc4.lt.2
  have hC1 : 1 ≤ C.length := hC1
  by_cases hbig : 200 < C.length
  · have hbI : (200 : Int) < C.length := by omega
    obtain ⟨r1, r2, _⟩ := ho5.head .i64 200 (by omega)
    have r1 : sslD y none (some (.int .i64 200)) = True := r1
    have r2 : Own fS 1 9 w4.heap.size w5 (sslV 1 y none (some (.int .i64 200))) (C.take 200) := r2
    simp only [↓vsd, vsn, gW, qd, qv, ev, pick, argE, zipE, ne_eq, eq_self, forall_const, implies_true, if_true, if_false, reduceIte, reduceCtorEq, Nat.reduceEqDiff, Nat.reduceAdd, Nat.reduceLT, ↓us_sl1Cur_rung, r_sl1Cur_rung, ho5.sq.facts, hbI, r1]
    have hC0 : (C.take 200).length ≤ 200 ∧ 1 ≤ (C.take 200).length := by rw [List.length_take]; omega
    generalize sslV 1 y none (some (.int .i64 200)) = y0 at *
    generalize C.take 200 = C0 at *
    have hoy := r2
    refine m_callw (by first | exact .inl rfl | exact .inr rfl) (sl1Cur_pick_ok W b (n + 60) 6 (by omega) _ (by omega) (by first | exact hc5 | exact hc5.ext (dr (Ext.refl _)))) ?_
    rintro _ w6 ⟨hc6, hg6, p, rfl, hp⟩
    have hg6 : w5.grownBy w6 (some b) := by first | exact hg6 | exact gud hg6
    have ho6 := hoy.keep hg6 (fun c hc => by rw [← Option.some.inj hc]; exact hbB)
    have hb6 := hb5.same (hg6.block b3 hb5.lt (fun e => by have := Option.some.inj e; omega))
    have hg06 := grown_trans hg05 hg6
    by_cases hp0 : p = 0
    · subst hp0
      have q0 : ((0 : Nat) : Int) = 0 := rfl
      simp only [↓vsd, vsn, gW, qd, qv, ev, pick, argE, zipE, ne_eq, eq_self, forall_const, implies_true, if_true, if_false, reduceIte, reduceCtorEq, Nat.reduceEqDiff, Nat.reduceAdd, Nat.reduceLT, ↓us_sl1Cur_rung, r_sl1Cur_rung, q0]
      refine m_call (sl1OwnS_ok y0 C0 (by omega) _ ho6.sq) ?_
      rintro z w7 hx7 ho7
      simp only [↓vsd, vsn, gW, qd, qv, ev, pick, argE, zipE, ne_eq, eq_self, forall_const, implies_true, if_true, if_false, reduceIte, reduceCtorEq, Nat.reduceEqDiff, Nat.reduceAdd, Nat.reduceLT, ↓us_sl1Cur_rung, r_sl1Cur_rung]
      refine m_app ho7 (ho6.sq.ext hx7) fS_one (by decide) (by omega) (by decide) hx7.size ?_
      rintro z8 w8 ho8 hg8
      simp only [↓vsd, vsn, gW, qd, qv, ev, pick, argE, zipE, ne_eq, eq_self, forall_const, implies_true, if_true, if_false, reduceIte, reduceCtorEq, Nat.reduceEqDiff, Nat.reduceAdd, Nat.reduceLT, ↓us_sl1Cur_rung, r_sl1Cur_rung]
      have hs6 := hg6.size
      have hs5 := hx5.size
      exact ⟨((hc6.ext hx7).keep hg8 (fun c hc => by have := (ho7.bound c hc).1; have := hc6.lt.2; omega)).mono (by omega), grown_new (grown_trans hg06 (grown_ext _ hx7)) hg8 (fun c hc => by have := (ho7.bound c hc).1; have := hg06.size; omega), _, HeldR.of ho8 hc6.lt.2, by rw [List.length_append]; omega⟩
    · by_cases hp1 : p = 1
      · subst hp1
        have q0 : ¬ (1 : Int) = 0 := by decide
        have q1 : ((1 : Nat) : Int) = 1 := rfl
        simp only [↓vsd, vsn, gW, qd, qv, ev, pick, argE, zipE, ne_eq, eq_self, forall_const, implies_true, if_true, if_false, reduceIte, reduceCtorEq, Nat.reduceEqDiff, Nat.reduceAdd, Nat.reduceLT, ↓us_sl1Cur_rung, r_sl1Cur_rung, ho6.sq.facts, q0, q1]
        refine m_callw (by first | exact .inl rfl | exact .inr rfl) (sl1Cur_pick_ok W b (n + 60 + 2) (C0.length : Nat) (by omega) _ (by omega) (by first | exact hc6 | exact hc6.ext (dr (Ext.refl _)))) ?_
        rintro _ w7 ⟨hc7, hg7, q, rfl, hq⟩
        have hg7 : w6.grownBy w7 (some b) := by first | exact hg7 | exact gud hg7
        have ho7 := ho6.keep hg7 (fun c hc => by rw [← Option.some.inj hc]; exact hbB)
        have eq1 : (1 : Int) + (q : Nat) = ((1 + q : Nat) : Int) := by omega
        obtain ⟨r1, r2, _⟩ := ho7.head .i64 (1 + q) (by omega)
        simp only [↓vsd, vsn, gW, qd, qv, ev, pick, argE, zipE, ne_eq, eq_self, forall_const, implies_true, if_true, if_false, reduceIte, reduceCtorEq, Nat.reduceEqDiff, Nat.reduceAdd, Nat.reduceLT, ↓us_sl1Cur_rung, r_sl1Cur_rung, eq1, r1]
        exact ⟨inR_i64 (by omega), hc7.mono (by omega), grown_trans hg06 hg7, _, HeldR.of r2 hbB, by rw [List.length_take]; omega⟩
      · by_cases hp2 : p = 2
        · subst hp2
          have q0 : ¬ (2 : Int) = 0 := by decide
          have q1 : ¬ (2 : Int) = 1 := by decide
          have q2 : ((2 : Nat) : Int) = 2 := rfl
          simp only [↓vsd, vsn, gW, qd, qv, ev, pick, argE, zipE, ne_eq, eq_self, forall_const, implies_true, if_true, if_false, reduceIte, reduceCtorEq, Nat.reduceEqDiff, Nat.reduceAdd, Nat.reduceLT, ↓us_sl1Cur_rung, r_sl1Cur_rung, hb6.facts, fMg, q0, q1, q2]
          refine m_callw (by first | exact .inl rfl | exact .inr rfl) (sl1Cur_rowsOf_ok W b (n + 60 + 2) m (by omega) 8 (by omega) _ (by omega) (by first | exact hc6 | exact hc6.ext (dr (Ext.refl _)))) ?_
          rintro z w7 ⟨hc7, hg7, l7, ho7, hl7⟩
          have hg7 : w6.grownBy w7 (some b) := by first | exact hg7 | exact gud hg7
          simp only [↓vsd, vsn, gW, qd, qv, ev, pick, argE, zipE, ne_eq, eq_self, forall_const, implies_true, if_true, if_false, reduceIte, reduceCtorEq, Nat.reduceEqDiff, Nat.reduceAdd, Nat.reduceLT, ↓us_sl1Cur_rung, r_sl1Cur_rung]
          exact ⟨hc7.mono (by omega), grown_trans hg06 hg7, _, HeldR.of ho7 (by first | exact hc6.lt.2 | (have := hc6.lt.2; omega)), by omega⟩
        · have q0 : ¬ (p : Int) = 0 := by omega
          have q1 : ¬ (p : Int) = 1 := by omega
          have q2 : ¬ (p : Int) = 2 := by omega
          simp only [↓vsd, vsn, gW, qd, qv, ev, pick, argE, zipE, ne_eq, eq_self, forall_const, implies_true, if_true, if_false, reduceIte, reduceCtorEq, Nat.reduceEqDiff, Nat.reduceAdd, Nat.reduceLT, ↓us_sl1Cur_rung, r_sl1Cur_rung, q0, q1, q2]
          exact ⟨hc6.mono (by omega), hg06, _, HeldR.of ho6 hbB, by omega⟩
  · have hbI : ¬ (200 : Int) < C.length := by omega
    simp only [↓vsd, vsn, gW, qd, qv, ev, pick, argE, zipE, ne_eq, eq_self, forall_const, implies_true, if_true, if_false, reduceIte, reduceCtorEq, Nat.reduceEqDiff, Nat.reduceAdd, Nat.reduceLT, ↓us_sl1Cur_rung, r_sl1Cur_rung, ho5.sq.facts, hbI]
    have hC0 : C.length ≤ 200 ∧ 1 ≤ C.length := ⟨by omega, hC1⟩
    generalize y = y0 at *
    generalize C = C0 at *
    have hoy := ho5
    refine m_callw (by first | exact .inl rfl | exact .inr rfl) (sl1Cur_pick_ok W b (n + 60) 6 (by omega) _ (by omega) (by first | exact hc5 | exact hc5.ext (dr (Ext.refl _)))) ?_
    rintro _ w6 ⟨hc6, hg6, p, rfl, hp⟩
    have hg6 : w5.grownBy w6 (some b) := by first | exact hg6 | exact gud hg6
    have ho6 := hoy.keep hg6 (fun c hc => by rw [← Option.some.inj hc]; exact hbB)
    have hb6 := hb5.same (hg6.block b3 hb5.lt (fun e => by have := Option.some.inj e; omega))
    have hg06 := grown_trans hg05 hg6
    by_cases hp0 : p = 0
    · subst hp0
      have q0 : ((0 : Nat) : Int) = 0 := rfl
      simp only [↓vsd, vsn, gW, qd, qv, ev, pick, argE, zipE, ne_eq, eq_self, forall_const, implies_true, if_true, if_false, reduceIte, reduceCtorEq, Nat.reduceEqDiff, Nat.reduceAdd, Nat.reduceLT, ↓us_sl1Cur_rung, r_sl1Cur_rung, q0]
      refine m_call (sl1OwnS_ok y0 C0 (by omega) _ ho6.sq) ?_
      rintro z w7 hx7 ho7
      simp only [↓vsd, vsn, gW, qd, qv, ev, pick, argE, zipE, ne_eq, eq_self, forall_const, implies_true, if_true, if_false, reduceIte, reduceCtorEq, Nat.reduceEqDiff, Nat.reduceAdd, Nat.reduceLT, ↓us_sl1Cur_rung, r_sl1Cur_rung]
      refine m_app ho7 (ho6.sq.ext hx7) fS_one (by decide) (by omega) (by decide) hx7.size ?_
      rintro z8 w8 ho8 hg8
      simp only [↓vsd, vsn, gW, qd, qv, ev, pick, argE, zipE, ne_eq, eq_self, forall_const, implies_true, if_true, if_false, reduceIte, reduceCtorEq, Nat.reduceEqDiff, Nat.reduceAdd, Nat.reduceLT, ↓us_sl1Cur_rung, r_sl1Cur_rung]
      have hs6 := hg6.size
      have hs5 := hx5.size
      exact ⟨((hc6.ext hx7).keep hg8 (fun c hc => by have := (ho7.bound c hc).1; have := hc6.lt.2; omega)).mono (by omega), grown_new (grown_trans hg06 (grown_ext _ hx7)) hg8 (fun c hc => by have := (ho7.bound c hc).1; have := hg06.size; omega), _, HeldR.of ho8 hc6.lt.2, by rw [List.length_append]; omega⟩
    · by_cases hp1 : p = 1
      · subst hp1
        have q0 : ¬ (1 : Int) = 0 := by decide
        have q1 : ((1 : Nat) : Int) = 1 := rfl
        simp only [↓vsd, vsn, gW, qd, qv, ev, pick, argE, zipE, ne_eq, eq_self, forall_const, implies_true, if_true, if_false, reduceIte, reduceCtorEq, Nat.reduceEqDiff, Nat.reduceAdd, Nat.reduceLT, ↓us_sl1Cur_rung, r_sl1Cur_rung, ho6.sq.facts, q0, q1]
        refine m_callw (by first | exact .inl rfl | exact .inr rfl) (sl1Cur_pick_ok W b (n + 60 + 2) (C0.length : Nat) (by omega) _ (by omega) (by first | exact hc6 | exact hc6.ext (dr (Ext.refl _)))) ?_
        rintro _ w7 ⟨hc7, hg7, q, rfl, hq⟩
        have hg7 : w6.grownBy w7 (some b) := by first | exact hg7 | exact gud hg7
        have ho7 := ho6.keep hg7 (fun c hc => by rw [← Option.some.inj hc]; exact hbB)
        have eq1 : (1 : Int) + (q : Nat) = ((1 + q : Nat) : Int) := by omega
        obtain ⟨r1, r2, _⟩ := ho7.head .i64 (1 + q) (by omega)
        simp only [↓vsd, vsn, gW, qd, qv, ev, pick, argE, zipE, ne_eq, eq_self, forall_const, implies_true, if_true, if_false, reduceIte, reduceCtorEq, Nat.reduceEqDiff, Nat.reduceAdd, Nat.reduceLT, ↓us_sl1Cur_rung, r_sl1Cur_rung, eq1, r1]
        exact ⟨inR_i64 (by omega), hc7.mono (by omega), grown_trans hg06 hg7, _, HeldR.of r2 hbB, by rw [List.length_take]; omega⟩
      · by_cases hp2 : p = 2
        · subst hp2
          have q0 : ¬ (2 : Int) = 0 := by decide
          have q1 : ¬ (2 : Int) = 1 := by decide
          have q2 : ((2 : Nat) : Int) = 2 := rfl
          simp only [↓vsd, vsn, gW, qd, qv, ev, pick, argE, zipE, ne_eq, eq_self, forall_const, implies_true, if_true, if_false, reduceIte, reduceCtorEq, Nat.reduceEqDiff, Nat.reduceAdd, Nat.reduceLT, ↓us_sl1Cur_rung, r_sl1Cur_rung, hb6.facts, fMg, q0, q1, q2]
          refine m_callw (by first | exact .inl rfl | exact .inr rfl) (sl1Cur_rowsOf_ok W b (n + 60 + 2) m (by omega) 8 (by omega) _ (by omega) (by first | exact hc6 | exact hc6.ext (dr (Ext.refl _)))) ?_
          rintro z w7 ⟨hc7, hg7, l7, ho7, hl7⟩
          have hg7 : w6.grownBy w7 (some b) := by first | exact hg7 | exact gud hg7
          simp only [↓vsd, vsn, gW, qd, qv, ev, pick, argE, zipE, ne_eq, eq_self, forall_const, implies_true, if_true, if_false, reduceIte, reduceCtorEq, Nat.reduceEqDiff, Nat.reduceAdd, Nat.reduceLT, ↓us_sl1Cur_rung, r_sl1Cur_rung]
          exact ⟨hc7.mono (by omega), grown_trans hg06 hg7, _, HeldR.of ho7 (by first | exact hc6.lt.2 | (have := hc6.lt.2; omega)), by omega⟩
        · have q0 : ¬ (p : Int) = 0 := by omega
          have q1 : ¬ (p : Int) = 1 := by omega
          have q2 : ¬ (p : Int) = 2 := by omega
          simp only [↓vsd, vsn, gW, qd, qv, ev, pick, argE, zipE, ne_eq, eq_self, forall_const, implies_true, if_true, if_false, reduceIte, reduceCtorEq, Nat.reduceEqDiff, Nat.reduceAdd, Nat.reduceLT, ↓us_sl1Cur_rung, r_sl1Cur_rung, q0, q1, q2]
          exact ⟨hc6.mono (by omega), hg06, _, HeldR.of ho6 hbB, by omega⟩
theorem sDrawIsTrueList_ok (v : Value) (code : List UInt8) (hl : code.length ≤ 1048576) (w : World) (h : Sq fU 1 w v code) : Fn 45 [v] w (fun r w' => ∃ l : List Bs, Sq fS 1 w' r l ∧ l.length ≤ 400) := by
  (refine callsV_of mix Try.func45 c_sDrawIsTrueList ?_; simp only [↓vsd, vsn, gW, qd, qv, ev, pick, argE, zipE, ne_eq, eq_self, forall_const, implies_true, if_true, if_false, reduceIte, reduceCtorEq, Nat.reduceEqDiff, Nat.reduceAdd, Nat.reduceLT, ↓us_sDrawIsTrueList, r_sDrawIsTrueList])
  simp only [↓vsd, vsn, gW, qd, qv, ev, pick, argE, zipE, ne_eq, eq_self, forall_const, implies_true, if_true, if_false, reduceIte, reduceCtorEq, Nat.reduceEqDiff, Nat.reduceAdd, Nat.reduceLT, ↓us_sDrawIsTrueList, r_sDrawIsTrueList, h.facts]
  refine m_al ?_
  rintro b w1 hb hblk hx1 hs1
  have hc := Cur.new h hl hb hblk hx1
  simp only [↓vsd, vsn, gW, qd, qv, ev, pick, argE, zipE, ne_eq, eq_self, forall_const, implies_true, if_true, if_false, reduceIte, reduceCtorEq, Nat.reduceEqDiff, Nat.reduceAdd, Nat.reduceLT, ↓us_sDrawIsTrueList, r_sDrawIsTrueList]
  refine m_callw (.inl rfl) (sl1Cur_rung_ok w b _ w1 (by omega) hc) ?_
  rintro x w2 ⟨hc2, hg2, l, hh2, hl2⟩
  simp only [↓vsd, vsn, gW, qd, qv, ev, pick, argE, zipE, ne_eq, eq_self, forall_const, implies_true, if_true, if_false, reduceIte, reduceCtorEq, Nat.reduceEqDiff, Nat.reduceAdd, Nat.reduceLT, ↓us_sDrawIsTrueList, r_sDrawIsTrueList]
  exact ⟨hc2.base, l, hh2.sq, hl2⟩
theorem sDrawTurnList_ok (v : Value) (code : List UInt8) (hl : code.length ≤ 1048576) (w : World) (h : Sq fU 1 w v code) : Fn 55 [v] w (fun r w' => ∃ (l : List Bs) (y : Value) (k : Int), r = .tuple ⟨[y, .int .i64 k]⟩ ∧ Sq fS 1 w' y l ∧ l.length ≤ 400) := by
  (refine callsV_of mix Try.func55 c_sDrawTurnList ?_; simp only [↓vsd, vsn, gW, qd, qv, ev, pick, argE, zipE, ne_eq, eq_self, forall_const, implies_true, if_true, if_false, reduceIte, reduceCtorEq, Nat.reduceEqDiff, Nat.reduceAdd, Nat.reduceLT, ↓us_sDrawTurnList, r_sDrawTurnList])
  simp only [↓vsd, vsn, gW, qd, qv, ev, pick, argE, zipE, ne_eq, eq_self, forall_const, implies_true, if_true, if_false, reduceIte, reduceCtorEq, Nat.reduceEqDiff, Nat.reduceAdd, Nat.reduceLT, ↓us_sDrawTurnList, r_sDrawTurnList, h.facts]
  refine m_al ?_
  rintro b w1 hb hblk hx1 hs1
  have hc := Cur.new h hl hb hblk hx1
  simp only [↓vsd, vsn, gW, qd, qv, ev, pick, argE, zipE, ne_eq, eq_self, forall_const, implies_true, if_true, if_false, reduceIte, reduceCtorEq, Nat.reduceEqDiff, Nat.reduceAdd, Nat.reduceLT, ↓us_sDrawTurnList, r_sDrawTurnList]
  refine m_callw (.inl rfl) (sl1Cur_rung_ok w b _ w1 (by omega) hc) ?_
  rintro x w2 ⟨hc2, hg2, l, hh2, hl2⟩
  simp only [↓vsd, vsn, gW, qd, qv, ev, pick, argE, zipE, ne_eq, eq_self, forall_const, implies_true, if_true, if_false, reduceIte, reduceCtorEq, Nat.reduceEqDiff, Nat.reduceAdd, Nat.reduceLT, ↓us_sDrawTurnList, r_sDrawTurnList, hh2.sq.facts]
  refine ⟨inR_i64 (by omega), m_callw (by first | exact .inl rfl | exact .inr rfl) (sl1Cur_pick_ok w b (0 + 2000) ((l.length : Int) + 1) (by omega) _ (by omega) (by first | exact hc2 | exact hc2.ext (dr (Ext.refl _)))) ?_⟩
  rintro _ w3 ⟨hc3, hg3, p, rfl, hp⟩
  have hg3 : w2.grownBy w3 (some b) := by first | exact hg3 | exact gud hg3
  simp only [↓vsd, vsn, gW, qd, qv, ev, pick, argE, zipE, ne_eq, eq_self, forall_const, implies_true, if_true, if_false, reduceIte, reduceCtorEq, Nat.reduceEqDiff, Nat.reduceAdd, Nat.reduceLT, ↓us_sDrawTurnList, r_sDrawTurnList]
  refine m_callw (by first | exact .inl rfl | exact .inr rfl) (sl1Cur_pick_ok w b (0 + 2000 + 2) 20 (by omega) _ (by omega) (by first | exact hc3 | exact hc3.ext (dr (Ext.refl _)))) ?_
  rintro _ w4 ⟨hc4, hg4, q, rfl, hq⟩
  have hg4 : w3.grownBy w4 (some b) := by first | exact hg4 | exact gud hg4
  have hd : ((q : Nat) : Int).tdiv 19 = ((q / 19 : Nat) : Int) := rfl
  simp only [↓vsd, vsn, gW, qd, qv, ev, pick, argE, zipE, ne_eq, eq_self, forall_const, implies_true, if_true, if_false, reduceIte, reduceCtorEq, Nat.reduceEqDiff, Nat.reduceAdd, Nat.reduceLT, ↓us_sDrawTurnList, r_sDrawTurnList, hd]
  have hq1 : q / 19 ≤ 1 := by omega
  generalize q / 19 = z at *
  exact ⟨⟨by decide, inR_i64 (by omega)⟩, inR_i64 (by omega), hc4.base, l, x, _, rfl, (hh2.go (grown_trans hg3 hg4)).sq, hl2⟩
theorem sDrawMeetIn_ok (v : Value) (code : List UInt8) (hl : code.length ≤ 1048576) (w : World) (h : Sq fU 1 w v code) : Fn 52 [v] w (fun r w' => ∃ (l m : List Bs) (y z : Value), r = .tuple ⟨[y, z]⟩ ∧ Sq fS 1 w' y l ∧ Sq fS 1 w' z m ∧ l.length ≤ 400 ∧ m.length ≤ 400) := by
  (refine callsV_of mix Try.func52 c_sDrawMeetIn ?_; simp only [↓vsd, vsn, gW, qd, qv, ev, pick, argE, zipE, ne_eq, eq_self, forall_const, implies_true, if_true, if_false, reduceIte, reduceCtorEq, Nat.reduceEqDiff, Nat.reduceAdd, Nat.reduceLT, ↓us_sDrawMeetIn, r_sDrawMeetIn])
  simp only [↓vsd, vsn, gW, qd, qv, ev, pick, argE, zipE, ne_eq, eq_self, forall_const, implies_true, if_true, if_false, reduceIte, reduceCtorEq, Nat.reduceEqDiff, Nat.reduceAdd, Nat.reduceLT, ↓us_sDrawMeetIn, r_sDrawMeetIn, h.facts]
  refine m_al ?_
  rintro b w1 hb hblk hx1 hs1
  have hc := Cur.new h hl hb hblk hx1
  simp only [↓vsd, vsn, gW, qd, qv, ev, pick, argE, zipE, ne_eq, eq_self, forall_const, implies_true, if_true, if_false, reduceIte, reduceCtorEq, Nat.reduceEqDiff, Nat.reduceAdd, Nat.reduceLT, ↓us_sDrawMeetIn, r_sDrawMeetIn]
  refine m_callw (.inl rfl) (sl1Cur_rung_ok w b _ w1 (by omega) hc) ?_
  rintro x w2 ⟨hc2, hg2, l, hh2, hl2⟩
  have hlast : ∀ w', w2.grownBy w' (some b) → Cur w b 3000 w' → ∀ w'' z, Cur w b (3000 + 2000) w'' → w'.grownBy w'' (some b) → (∃ l, HeldR b w'' z l ∧ l.length ≤ 400) → Ext w w'' ∧ ∃ (l m : List Bs) (y u : Value), Value.tuple ⟨[x, z]⟩ = .tuple ⟨[y, u]⟩ ∧ Sq fS 1 w'' y l ∧ Sq fS 1 w'' u m ∧ l.length ≤ 400 ∧ m.length ≤ 400 := fun w' hg' hc' w'' z hc'' hg'' ⟨m, hm, hml⟩ =>
    ⟨hc''.base, l, m, x, z, rfl, (hh2.go (grown_trans hg' hg'')).sq, hm.sq, hl2, hml⟩
  by_cases h0 : 0 < l.length
  · have h0I : (0 : Int) < l.length := by omega
    simp only [↓vsd, vsn, gW, qd, qv, ev, pick, argE, zipE, ne_eq, eq_self, forall_const, implies_true, if_true, if_false, reduceIte, reduceCtorEq, Nat.reduceEqDiff, Nat.reduceAdd, Nat.reduceLT, ↓us_sDrawMeetIn, r_sDrawMeetIn, hh2.sq.facts, h0I]
    refine m_call (sl6Rows_ok x l (by omega) _ (by first | exact hh2.sq | exact hh2.sq.ext (dr (Ext.refl _)))) ?_
    rintro _ w3 hx3 rfl
    have hx3 : Ext w2 w3 := by first | exact hx3 | exact ud hx3 | exact ud (ud hx3)
    have hg3 : w2.grownBy w3 (some b) := grown_ext _ hx3
    have hc3 := hc2.ext hx3
    by_cases hr : IsRows l
    · simp only [↓vsd, vsn, gW, qd, qv, ev, pick, argE, zipE, ne_eq, eq_self, forall_const, implies_true, if_true, if_false, reduceIte, reduceCtorEq, Nat.reduceEqDiff, Nat.reduceAdd, Nat.reduceLT, ↓us_sDrawMeetIn, r_sDrawMeetIn, hr]
      refine m_callw (by first | exact .inl rfl | exact .inr rfl) (sl1Cur_one_ok w b (0 + 2000) 2 (by omega) _ (by omega) (by first | exact hc3 | exact hc3.ext (dr (Ext.refl _)))) ?_
      rintro _ w4 ⟨hc4, hg4, p, rfl⟩
      have hg4 : w3.grownBy w4 (some b) := by first | exact hg4 | exact gud hg4
      have hg24 := grown_trans hg3 hg4
      have hh4 := hh2.go hg24
      cases p
      · simp only [↓vsd, vsn, gW, qd, qv, ev, pick, argE, zipE, ne_eq, eq_self, forall_const, implies_true, if_true, if_false, reduceIte, reduceCtorEq, Nat.reduceEqDiff, Nat.reduceAdd, Nat.reduceLT, ↓us_sDrawMeetIn, r_sDrawMeetIn]
        refine m_callw (by first | exact .inl rfl | exact .inr rfl) (sl1Cur_rung_ok w b 3000 _ (by omega) (by first | exact hc4.mono (by omega) | exact (hc4.mono (by omega)).ext (dr (Ext.refl _)))) ?_
        rintro z w5 ⟨hc5, hg5, hh5⟩
        have hg5 : w4.grownBy w5 (some b) := by first | exact hg5 | exact gud hg5
        simp only [↓vsd, vsn, gW, qd, qv, ev, pick, argE, zipE, ne_eq, eq_self, forall_const, implies_true, if_true, if_false, reduceIte, reduceCtorEq, Nat.reduceEqDiff, Nat.reduceAdd, Nat.reduceLT, ↓us_sDrawMeetIn, r_sDrawMeetIn]
        exact hlast w4 hg24 (hc4.mono (by omega)) w5 z hc5 hg5 hh5
      · have a4 := hh4.sq.at0 [] h0
        have hrn := hr.1 _ (getD_mem [] h0)
        have h38 := hrn.1.1
        simp only [↓vsd, vsn, gW, qd, qv, ev, pick, argE, zipE, ne_eq, eq_self, forall_const, implies_true, if_true, if_false, reduceIte, reduceCtorEq, Nat.reduceEqDiff, Nat.reduceAdd, Nat.reduceLT, ↓us_sDrawMeetIn, r_sDrawMeetIn, hh4.sq.facts, a4]
        refine ⟨by omega, m_callw (by first | exact .inl rfl | exact .inr rfl) (sl1Cur_row_ok w b (0 + 2000 + 2) (l.getD 0 []).length (by omega) _ (by omega) (by first | exact hc4 | exact hc4.ext (dr (Ext.refl _)))) ?_⟩
        rintro _ w5 ⟨hc5, hg5, y, rfl, hy⟩
        have hg5 : w4.grownBy w5 (some b) := by first | exact hg5 | exact gud hg5
        have hh5 := hh4.go hg5
        have a5 := hh5.sq.at0 [] h0
        have hyI : (y.length : Int) = ((l.getD 0 []).length : Int) := by omega
        simp only [↓vsd, vsn, gW, qd, qv, ev, pick, argE, zipE, ne_eq, eq_self, forall_const, implies_true, if_true, if_false, reduceIte, reduceCtorEq, Nat.reduceEqDiff, Nat.reduceAdd, Nat.reduceLT, ↓us_sDrawMeetIn, r_sDrawMeetIn, hh5.sq.facts, a5, hyI]
        refine ⟨by omega, m_call (sl6Left_okq y.length y x l rfl (fun r hr' => ⟨(hr.1 r hr').1, by rw [(hr.1 r hr').2, hy]⟩) (by omega) _ (by first | exact hh5.sq | exact hh5.sq.ext (dr (Ext.refl _)))) ?_⟩
        rintro z w6 hx6 ho6
        have hx6 : Ext w5 w6 := by first | exact hx6 | exact ud hx6 | exact ud (ud hx6)
        simp only [↓vsd, vsn, gW, qd, qv, ev, pick, argE, zipE, ne_eq, eq_self, forall_const, implies_true, if_true, if_false, reduceIte, reduceCtorEq, Nat.reduceEqDiff, Nat.reduceAdd, Nat.reduceLT, ↓us_sDrawMeetIn, r_sDrawMeetIn]
        exact ⟨hc5.base.trans hx6, l, _, x, z, rfl, hh5.sq.ext hx6, ho6.sq, hl2, by rw [List.length_map]; exact hl2⟩
    · simp only [↓vsd, vsn, gW, qd, qv, ev, pick, argE, zipE, ne_eq, eq_self, forall_const, implies_true, if_true, if_false, reduceIte, reduceCtorEq, Nat.reduceEqDiff, Nat.reduceAdd, Nat.reduceLT, ↓us_sDrawMeetIn, r_sDrawMeetIn, hr]
      refine m_callw (by first | exact .inl rfl | exact .inr rfl) (sl1Cur_rung_ok w b 3000 _ (by omega) (by first | exact hc3.mono (by omega) | exact (hc3.mono (by omega)).ext (dr (Ext.refl _)))) ?_
      rintro z w5 ⟨hc5, hg5, hh5⟩
      have hg5 : w3.grownBy w5 (some b) := by first | exact hg5 | exact gud hg5
      simp only [↓vsd, vsn, gW, qd, qv, ev, pick, argE, zipE, ne_eq, eq_self, forall_const, implies_true, if_true, if_false, reduceIte, reduceCtorEq, Nat.reduceEqDiff, Nat.reduceAdd, Nat.reduceLT, ↓us_sDrawMeetIn, r_sDrawMeetIn]
      exact hlast w3 hg3 (hc3.mono (by omega)) w5 z hc5 hg5 hh5
  · have h0I : ¬ (0 : Int) < l.length := by omega
    simp only [↓vsd, vsn, gW, qd, qv, ev, pick, argE, zipE, ne_eq, eq_self, forall_const, implies_true, if_true, if_false, reduceIte, reduceCtorEq, Nat.reduceEqDiff, Nat.reduceAdd, Nat.reduceLT, ↓us_sDrawMeetIn, r_sDrawMeetIn, hh2.sq.facts, h0I]
    refine m_callw (by first | exact .inl rfl | exact .inr rfl) (sl1Cur_rung_ok w b 3000 _ (by omega) (by first | exact hc2.mono (by omega) | exact (hc2.mono (by omega)).ext (dr (Ext.refl _)))) ?_
    rintro z w5 ⟨hc5, hg5, hh5⟩
    have hg5 : w2.grownBy w5 (some b) := by first | exact hg5 | exact gud hg5
    simp only [↓vsd, vsn, gW, qd, qv, ev, pick, argE, zipE, ne_eq, eq_self, forall_const, implies_true, if_true, if_false, reduceIte, reduceCtorEq, Nat.reduceEqDiff, Nat.reduceAdd, Nat.reduceLT, ↓us_sDrawMeetIn, r_sDrawMeetIn]
    exact hlast w2 (grown_refl _ _) (hc2.mono (by omega)) w5 z hc5 hg5 hh5
theorem lsameLists_okt (v1 v2 : Value) (l1 l2 : List (List Int)) (w : World) (h1 : Sq2 fI w v1 l1) (h2 : Sq2 fI w v2 l2) (hl : l1.length ≤ 1000000) (hs : ∀ x ∈ l1, x.length ≤ 1000000) : Fn 18 [v1, v2] w (fun v _ => v = .bool (decide (l1 = l2))) := by
  obtain ⟨u1, q1, g1, i1⟩ := h1
  obtain ⟨u2, q2, g2, i2⟩ := h2
  (refine callsV_of mix Try.func18 c_lsameLists ?_; simp only [↓vsd, vsn, gW, qd, qv, ev, pick, argE, zipE, ne_eq, eq_self, forall_const, implies_true, if_true, if_false, reduceIte, reduceCtorEq, Nat.reduceEqDiff, Nat.reduceAdd, Nat.reduceLT, ↓us_lsameLists, r_lsameLists])
  simp only [↓vsd, vsn, gW, qd, qv, ev, pick, argE, zipE, ne_eq, eq_self, forall_const, implies_true, if_true, if_false, reduceIte, reduceCtorEq, Nat.reduceEqDiff, Nat.reduceAdd, Nat.reduceLT, ↓us_lsameLists, r_lsameLists, q1.facts, q2.facts, g1, g2]
  refine ⟨fun hne => ⟨Ext.refl _, by have : ¬ l1 = l2 := fun e => hne (by rw [e]); simp [this]⟩, fun he => ?_⟩
  have he : l1.length = l2.length := by omega
  refine m_upto l1.length (fun k vs w' => vs = [.int .i64 k] ∧ l1.take k = l2.take k ∧ Ext w w') ⟨rfl, by simp, Ext.refl _⟩ ?_
  rintro k vs w1 hk ⟨rfl, hall, hx⟩
  have hq1 := q1.ext hx
  have hq2 := q2.ext hx
  by_cases hlt : k < l1.length
  · have hltI : (k : Int) < l1.length := by omega
    have hltJ : ¬ (l1.length : Int) ≤ k := by omega
    have hlt2 : k < l2.length := by omega
    have hltK : (k : Int) < l2.length := by omega
    have hk1 : k < u1.length := by omega
    have hk2 : k < u2.length := by omega
    simp only [↓vsd, vsn, gW, qd, qv, ev, pick, argE, zipE, ne_eq, eq_self, forall_const, implies_true, if_true, if_false, reduceIte, reduceCtorEq, Nat.reduceEqDiff, Nat.reduceAdd, Nat.reduceLT, ↓us_lsameLists, r_lsameLists, hq1.facts, hq2.facts, g1, g2, hltI, hltJ, hltK, hq1.at1 SV.nil hk1, hq2.at1 SV.nil hk2, fSV_get]
    refine ⟨by omega, by omega, m_call (lsameInts_ok _ _ (l1.getD k []) (l2.getD k []) _ ((i1 k hlt).ext (by first | exact hx | exact dr hx)) ((i2 k hlt2).ext (by first | exact hx | exact dr hx)) (by have := hs _ (getD_mem [] hlt); omega)) ?_⟩
    rintro _ w2 hx2 rfl
    have hx12 : Ext w w2 := by first | exact hx.trans hx2 | exact hx.trans (ud hx2)
    simp only [↓vsd, vsn, gW, qd, qv, ev, pick, argE, zipE, ne_eq, eq_self, forall_const, implies_true, if_true, if_false, reduceIte, reduceCtorEq, Nat.reduceEqDiff, Nat.reduceAdd, Nat.reduceLT, ↓us_lsameLists, r_lsameLists]
    exact ⟨fun hne => ⟨hx12, by simp [ne_at k hne]⟩, fun he => ⟨inR_i64 (by omega), UpTo.next hlt ⟨rfl, eq_take hall hlt hlt2 he, hx12⟩⟩⟩
  · obtain rfl : k = l1.length := by omega
    have hltI : ¬ (l1.length : Int) < l1.length := by omega
    simp only [↓vsd, vsn, gW, qd, qv, ev, pick, argE, zipE, ne_eq, eq_self, forall_const, implies_true, if_true, if_false, reduceIte, reduceCtorEq, Nat.reduceEqDiff, Nat.reduceAdd, Nat.reduceLT, ↓us_lsameLists, r_lsameLists, hq1.facts, g1, hltI]
    exact ⟨hx, by simp [eq_len hall he]⟩
set_option maxHeartbeats 4000000 in
theorem lFnTrueLists_ok (v u : Value) (code more : List UInt8) (hcl : code.length ≤ 9223372036854775807) (hml : more.length ≤ 9223372036854775807) (w : World) (h : Sq fU 1 w v code) (h' : Sq fU 1 w u more) : Fn 5 [v, u] w (fun r _ => r = .bool true) := by
  (refine callsV_of mix Try.func5 c_lFnTrueLists ?_; simp only [↓vsd, vsn, gW, qd, qv, ev, pick, argE, zipE, ne_eq, eq_self, forall_const, implies_true, if_true, if_false, reduceIte, reduceCtorEq, Nat.reduceEqDiff, Nat.reduceAdd, Nat.reduceLT, ↓us_lFnTrueLists, r_lFnTrueLists])
  refine m_call (lbig_ok v u code more hcl hml _ h h') ?_
  rintro _ w0 hx0 rfl
  simp only [↓vsd, vsn, gW, qd, qv, ev, pick, argE, zipE, ne_eq, eq_self, forall_const, implies_true, if_true, if_false, reduceIte, reduceCtorEq, Nat.reduceEqDiff, Nat.reduceAdd, Nat.reduceLT, ↓us_lFnTrueLists, r_lFnTrueLists]
  refine ⟨fun _ => hx0, fun hsm => ?_⟩
  have hlen : code.length ≤ 1048576 ∧ more.length ≤ 1048576 := by omega
  refine m_call (sDrawIsTrueList_ok v code hlen.1 _ (h.ext hx0)) ?_
  rintro y w1 hx1 ⟨l, hq1, hl⟩
  simp only [↓vsd, vsn, gW, qd, qv, ev, pick, argE, zipE, ne_eq, eq_self, forall_const, implies_true, if_true, if_false, reduceIte, reduceCtorEq, Nat.reduceEqDiff, Nat.reduceAdd, Nat.reduceLT, ↓us_lFnTrueLists, r_lFnTrueLists]
  refine m_call (iIsTrueList_ok y l (by omega) _ hq1) ?_
  rintro _ w2 hx2 rfl
  rw [trueV]
  simp only [↓vsd, vsn, gW, qd, qv, ev, pick, argE, zipE, ne_eq, eq_self, forall_const, implies_true, if_true, if_false, reduceIte, reduceCtorEq, Nat.reduceEqDiff, Nat.reduceAdd, Nat.reduceLT, ↓us_lFnTrueLists, r_lFnTrueLists]
  refine m_call (sIsTrueList_ok y l (by omega) _ (hq1.ext hx2)) ?_
  rintro _ w3 hx3 rfl
  rw [trueV]
  simp only [↓vsd, vsn, gW, qd, qv, ev, pick, argE, zipE, ne_eq, eq_self, forall_const, implies_true, if_true, if_false, reduceIte, reduceCtorEq, Nat.reduceEqDiff, Nat.reduceAdd, Nat.reduceLT, ↓us_lFnTrueLists, r_lFnTrueLists]
  have hx13 := hx2.trans hx3
  refine m_call (iRepeatsIn_ok y l (by omega) _ (hq1.ext hx13)) ?_
  rintro _ w4 hx4 ⟨p4, rfl, hp4⟩
  simp only [↓vsd, vsn, gW, qd, qv, ev, pick, argE, zipE, ne_eq, eq_self, forall_const, implies_true, if_true, if_false, reduceIte, reduceCtorEq, Nat.reduceEqDiff, Nat.reduceAdd, Nat.reduceLT, ↓us_lFnTrueLists, r_lFnTrueLists]
  refine m_call (sRepeatsIn_ok y l (by omega) _ ((hq1.ext hx13).ext hx4)) ?_
  rintro _ w5 hx5 ⟨p5, rfl, hp5⟩
  have hx15 := (hx13.trans hx4).trans hx5
  have hp4 := hp4.ext hx5
  have hrv : (repV l).length ≤ 100 ∧ ∀ x ∈ repV l, x.length ≤ 1000000 := by
    unfold repV; split
    · exact ⟨repL_len l, fun x hx => repL_small hx⟩
    · exact ⟨by simp, fun x hx => by cases hx⟩
  simp only [↓vsd, vsn, gW, qd, qv, ev, pick, argE, zipE, ne_eq, eq_self, forall_const, implies_true, if_true, if_false, reduceIte, reduceCtorEq, Nat.reduceEqDiff, Nat.reduceAdd, Nat.reduceLT, ↓us_lFnTrueLists, r_lFnTrueLists]
  refine m_call (lsameLists_okt p4 p5 _ _ _ (by first | exact hp4 | exact hp4.ext (dr (Ext.refl _))) (by first | exact hp5 | exact hp5.ext (dr (Ext.refl _))) (by omega) hrv.2) ?_
  rintro _ w6 hx6 rfl
  have hx6 : Ext w5 w6 := by first | exact hx6 | exact ud hx6 | exact ud (ud hx6)
  have hx16 := hx15.trans hx6
  have hx06 := (hx0.trans hx1).trans hx16
  have hq6 := hq1.ext hx16
  have hp6 := hp4.ext hx6
  by_cases hr : IsRows l
  · have hn := hr.1
    have e1 : repV l = repL l := by rw [repV, if_pos hr]
    rw [e1] at hp6
    have hnil := repL_nil l
    have hR : decide (IsRows l) = true := decide_eq_true hr
    have hND : decide (IsRows l ∧ l.Nodup) = decide ((((repL l).length : Nat) : Int) = 0) := decide_eq_decide.2 ⟨fun hh => by rw [hnil.2 hh.2]; rfl, fun hh => ⟨hr, hnil.1 (List.length_eq_zero_iff.1 (by omega))⟩⟩
    have hl100 := repL_len l
    simp only [↓vsd, vsn, gW, qd, qv, ev, pick, argE, zipE, ne_eq, eq_self, forall_const, implies_true, if_true, if_false, reduceIte, reduceCtorEq, Nat.reduceEqDiff, Nat.reduceAdd, Nat.reduceLT, ↓us_lFnTrueLists, r_lFnTrueLists, hR, hND, hp6.facts]
    refine m_upto (repL l).length (fun k vs w' => vs = [.int .i64 k] ∧ Ext w6 w') ⟨rfl, Ext.refl _⟩ ?_
    rintro k vs w7 hk ⟨rfl, hx7⟩
    have hp7 := hp6.ext hx7
    have hq7 := hq6.ext hx7
    by_cases hlt : k < (repL l).length
    · have hltI : (k : Int) < (repL l).length := by omega
      have hltJ : ¬ ((repL l).length : Int) ≤ k := by omega
      obtain ⟨u0, a7, b7⟩ := hp7.at hlt
      obtain ⟨i, j, hij, hjl, he, hx⟩ := repL_mem (getD_mem [] hlt)
      rw [hx] at b7
      have c0 := b7.at1 0 (i := 0) (by simp)
      have c1 := b7.at1 0 (i := 1) (by simp)
      have g0 : ([(i : Int), (j : Int)] : List Int).getD 0 0 = i := rfl
      have g1 : ([(i : Int), (j : Int)] : List Int).getD 1 0 = j := rfl
      rw [g0] at c0
      rw [g1] at c1
      simp only [Int.natCast_one, Int.natCast_zero] at c0 c1
      have d0 := hq7.at1 [] (i := i) (by omega)
      have d1 := hq7.at1 [] (i := j) hjl
      rw [he] at d1
      have hijI : ¬ ((j : Int) ≤ (i : Int)) := by omega
      have hi0 : ¬ ((i : Int) < 0) := by omega
      have hjI : ¬ ((l.length : Int) ≤ (j : Int)) := by omega
      have hl2 : ([(i : Int), (j : Int)] : List Int).length = 2 := rfl
      have h22 : ((2 : Nat) : Int) = 2 := rfl
      simp only [↓vsd, vsn, gW, qd, qv, ev, pick, argE, zipE, ne_eq, eq_self, forall_const, implies_true, if_true, if_false, reduceIte, reduceCtorEq, Nat.reduceEqDiff, Nat.reduceAdd, Nat.reduceLT, ↓us_lFnTrueLists, r_lFnTrueLists, hltI, hltJ, hp7.facts, a7, b7.facts, hl2, h22, c0, c1, hijI, hi0, hjI, hq7.facts, d0, d1]
      exact ⟨by omega, by decide, by decide, by decide, by decide, by decide, by omega, by decide, by omega, inR_i64 (by omega), UpTo.next hlt ⟨rfl, by first | exact hx7 | exact dr hx7⟩⟩
    · obtain rfl : k = (repL l).length := by omega
      have hltI : ¬ ((repL l).length : Int) < (repL l).length := by omega
      have hx07 := hx06.trans hx7
      by_cases h0 : 0 < l.length
      · have h0I : (0 : Int) < l.length := by omega
        simp only [↓vsd, vsn, gW, qd, qv, ev, pick, argE, zipE, ne_eq, eq_self, forall_const, implies_true, if_true, if_false, reduceIte, reduceCtorEq, Nat.reduceEqDiff, Nat.reduceAdd, Nat.reduceLT, ↓us_lFnTrueLists, r_lFnTrueLists, hltI, hq7.facts, h0I]
        refine m_call (lnumberOf_ok u more hlen.2 _ (h'.ext hx07)) ?_
        rintro _ w8 hx8 ⟨z, rfl, hz⟩
        have hx08 := hx07.trans hx8
        have hq8 := hq7.ext hx8
        have hmI : ((z : Nat) : Int).tmod ((l.length : Nat) : Int) = ((z % l.length : Nat) : Int) := rfl
        have hzm := Nat.mod_lt z h0
        have hposI : ¬ ((l.length : Nat) : Int) = 0 := by omega
        simp only [↓vsd, vsn, gW, qd, qv, ev, pick, argE, zipE, ne_eq, eq_self, forall_const, implies_true, if_true, if_false, reduceIte, reduceCtorEq, Nat.reduceEqDiff, Nat.reduceAdd, Nat.reduceLT, ↓us_lFnTrueLists, r_lFnTrueLists, hq8.facts, hmI]
        generalize z % l.length = q at *
        refine ⟨hposI, m_call (iTurnList_ok y l q (by omega) _ hq8) ?_⟩
        rintro _ w9 hx9 ⟨t9, rfl, ho9⟩
        have hx09 := hx08.trans hx9
        have htk : TurnOk l q := ⟨hr, by omega, by omega⟩
        have etv : turnLV l q = turnListL l q := by rw [turnLV, if_pos htk]; rfl
        rw [etv] at ho9
        have hrows := turnListL_rows hn hzm
        have hnod := turnListL_nodup hn hzm
        have hll := turnListL_len l q
        generalize turnListL l q = T at *
        have hT0 : 0 < T.length := by omega
        have hTR : IsRows T := ⟨fun r hm => ⟨(hrows r hm).1, by rw [(hrows r hm).2, (hrows _ (getD_mem [] hT0)).2]⟩, by have := hr.2; omega⟩
        have hTR2 : decide (IsRows T) = true := decide_eq_true hTR
        have hD2 : decide (IsRows T ∧ T.Nodup) = decide ((((repL l).length : Nat) : Int) = 0) := decide_eq_decide.2 ⟨fun hh => by rw [hnil.2 (hnod.1 hh.2)]; rfl, fun hh => ⟨hTR, hnod.2 (hnil.1 (List.length_eq_zero_iff.1 (by omega)))⟩⟩
        have htD2 := decide_eq_true htk
        simp only [↓vsd, vsn, gW, qd, qv, ev, pick, argE, zipE, ne_eq, eq_self, forall_const, implies_true, if_true, if_false, reduceIte, reduceCtorEq, Nat.reduceEqDiff, Nat.reduceAdd, Nat.reduceLT, ↓us_lFnTrueLists, r_lFnTrueLists, htD2]
        refine m_call (iIsTrueList_ok t9 T (by omega) _ ho9.sq) ?_
        rintro _ w10 hx10 rfl
        rw [trueV]
        have hxL := hx09.trans hx10
        have hlI : (T.length : Int) = l.length := by omega
        have ho10 := ho9.sq.ext hx10
        have hq10 := hq8.ext (hx9.trans hx10)
        simp only [↓vsd, vsn, gW, qd, qv, ev, pick, argE, zipE, ne_eq, eq_self, forall_const, implies_true, if_true, if_false, reduceIte, reduceCtorEq, Nat.reduceEqDiff, Nat.reduceAdd, Nat.reduceLT, ↓us_lFnTrueLists, r_lFnTrueLists, hTR2, hD2, ho10.facts, hq10.facts, hlI]
        refine m_call (sDrawMeetIn_ok u more hlen.2 _ (by first | exact h'.ext hxL | exact h'.ext (dr hxL))) ?_
        rintro _ wa hxa ⟨la, ma, ya, za, rfl, hqa, hra, hla, hma⟩
        have hxLa : Ext w wa := by first | exact hxL.trans hxa | exact hxL.trans (ud hxa)
        simp only [↓vsd, vsn, gW, qd, qv, ev, pick, argE, zipE, ne_eq, eq_self, forall_const, implies_true, if_true, if_false, reduceIte, reduceCtorEq, Nat.reduceEqDiff, Nat.reduceAdd, Nat.reduceLT, ↓us_lFnTrueLists, r_lFnTrueLists]
        refine m_call (iMeetIn_ok ya za la ma (by omega) (by omega) _ hqa hra) ?_
        rintro _ wb hxb ⟨yb, rfl, hob⟩
        simp only [↓vsd, vsn, gW, qd, qv, ev, pick, argE, zipE, ne_eq, eq_self, forall_const, implies_true, if_true, if_false, reduceIte, reduceCtorEq, Nat.reduceEqDiff, Nat.reduceAdd, Nat.reduceLT, ↓us_lFnTrueLists, r_lFnTrueLists]
        refine m_call (sMeetIn_ok ya za la ma (by omega) (by omega) _ (hqa.ext hxb) (hra.ext hxb)) ?_
        rintro _ wc hxc ⟨yc, rfl, hoc⟩
        have hxLc := (hxLa.trans hxb).trans hxc
        have hob := hob.sq.ext hxc
        have hmv : (meetV la ma).length ≤ 400 := by
          unfold meetV; split
          · exact Nat.le_trans (meet_len _ _) hla
          · simp
        simp only [↓vsd, vsn, gW, qd, qv, ev, pick, argE, zipE, ne_eq, eq_self, forall_const, implies_true, if_true, if_false, reduceIte, reduceCtorEq, Nat.reduceEqDiff, Nat.reduceAdd, Nat.reduceLT, ↓us_lFnTrueLists, r_lFnTrueLists]
        refine m_call (sDrawTurnList_ok u more hlen.2 _ (h'.ext hxLc)) ?_
        rintro _ wd hxd ⟨ld, yd, kd, rfl, hqd, hld⟩
        simp only [↓vsd, vsn, gW, qd, qv, ev, pick, argE, zipE, ne_eq, eq_self, forall_const, implies_true, if_true, if_false, reduceIte, reduceCtorEq, Nat.reduceEqDiff, Nat.reduceAdd, Nat.reduceLT, ↓us_lFnTrueLists, r_lFnTrueLists]
        refine m_call (iTurnList_ok yd ld kd (by omega) _ hqd) ?_
        rintro _ we hxe ⟨ye, rfl, hoe⟩
        simp only [↓vsd, vsn, gW, qd, qv, ev, pick, argE, zipE, ne_eq, eq_self, forall_const, implies_true, if_true, if_false, reduceIte, reduceCtorEq, Nat.reduceEqDiff, Nat.reduceAdd, Nat.reduceLT, ↓us_lFnTrueLists, r_lFnTrueLists]
        refine m_call (sTurnList_ok yd ld kd (by omega) _ (hqd.ext hxe)) ?_
        rintro _ wf hxf ⟨yf, rfl, hof⟩
        have hxdf := (hxd.trans hxe).trans hxf
        have hxLf := hxLc.trans hxdf
        have hoe := hoe.sq.ext hxf
        have htv : (turnLV ld kd).length ≤ 400 := by
          unfold turnLV; split
          · rw [turnListL_len]; exact hld
          · simp
        simp only [↓vsd, vsn, gW, qd, qv, ev, pick, argE, zipE, ne_eq, eq_self, forall_const, implies_true, if_true, if_false, reduceIte, reduceCtorEq, Nat.reduceEqDiff, Nat.reduceAdd, Nat.reduceLT, ↓us_lFnTrueLists, r_lFnTrueLists]
        refine m_call (lsameTexts_ok yb yc _ _ _ (by first | exact hob.ext hxdf | exact (hob.ext hxdf).ext (dr (Ext.refl _))) (by first | exact hoc.sq.ext hxdf | exact (hoc.sq.ext hxdf).ext (dr (Ext.refl _))) (by omega)) ?_
        rintro _ wg hxg rfl
        have hxg : Ext wf wg := by first | exact hxg | exact ud hxg | exact ud (ud hxg)
        simp only [↓vsd, vsn, gW, qd, qv, ev, pick, argE, zipE, ne_eq, eq_self, forall_const, implies_true, if_true, if_false, reduceIte, reduceCtorEq, Nat.reduceEqDiff, Nat.reduceAdd, Nat.reduceLT, ↓us_lFnTrueLists, r_lFnTrueLists]
        refine m_call (lsameTexts_ok ye yf _ _ _ (by first | exact hoe.ext hxg | exact (hoe.ext hxg).ext (dr (Ext.refl _))) (by first | exact hof.sq.ext hxg | exact (hof.sq.ext hxg).ext (dr (Ext.refl _))) (by omega)) ?_
        rintro _ wh hxh rfl
        have hxh : Ext wg wh := by first | exact hxh | exact ud hxh | exact ud (ud hxh)
        have hxLh := (hxLf.trans hxg).trans hxh
        have hoh := (hoe.ext hxg).ext hxh
        by_cases htk : TurnOk ld kd
        · have hn := htk.1.1
          have h0 : 0 < ld.length := by have := htk.2; omega
          have hkl : kd.toNat < ld.length := by have := htk.2; omega
          have etv : turnLV ld kd = turnListL ld kd.toNat := by rw [turnLV, if_pos htk]
          have hf := turnListL_first hn hkl
          have hll := turnListL_len ld kd.toNat
          have h38 := (hn _ (getD_mem [] h0)).1.1
          rw [etv] at hoh
          generalize turnListL ld kd.toNat = T at *
          have hT0 : 0 < T.length := by omega
          have hT0I : (0 : Int) < T.length := by omega
          have ah := hoh.at0 [] hT0
          rw [hf] at ah
          have hrl := roundsL_len (ld.getD 0 []).length
          have htD := decide_eq_true htk
          simp only [↓vsd, vsn, gW, qd, qv, ev, pick, argE, zipE, ne_eq, eq_self, forall_const, implies_true, if_true, if_false, reduceIte, reduceCtorEq, Nat.reduceEqDiff, Nat.reduceAdd, Nat.reduceLT, ↓us_lFnTrueLists, r_lFnTrueLists, htD, hoh.facts, hT0I, ah, hrl]
          refine ⟨by omega, m_call (iRoundsOf_ok ((ld.getD 0 []).length : Nat) _) ?_⟩
          rintro _ wi hxi hri
          rw [roundsV, if_pos ⟨by omega, by omega⟩, Int.toNat_natCast] at hri
          subst hri
          have hoi := hoh.ext hxi
          have ai := hoi.at0 [] hT0
          rw [hf] at ai
          simp only [↓vsd, vsn, gW, qd, qv, ev, pick, argE, zipE, ne_eq, eq_self, forall_const, implies_true, if_true, if_false, reduceIte, reduceCtorEq, Nat.reduceEqDiff, Nat.reduceAdd, Nat.reduceLT, ↓us_lFnTrueLists, r_lFnTrueLists, hoi.facts, hoh.facts, ai, ah]
          exact ⟨by omega, hxLh.trans hxi⟩
        · have htD := decide_eq_false htk
          simp only [↓vsd, vsn, gW, qd, qv, ev, pick, argE, zipE, ne_eq, eq_self, forall_const, implies_true, if_true, if_false, reduceIte, reduceCtorEq, Nat.reduceEqDiff, Nat.reduceAdd, Nat.reduceLT, ↓us_lFnTrueLists, r_lFnTrueLists, htD]
          exact hxLh
      · have h0I : ¬ (0 : Int) < l.length := by omega
        have hxL := hx07
        simp only [↓vsd, vsn, gW, qd, qv, ev, pick, argE, zipE, ne_eq, eq_self, forall_const, implies_true, if_true, if_false, reduceIte, reduceCtorEq, Nat.reduceEqDiff, Nat.reduceAdd, Nat.reduceLT, ↓us_lFnTrueLists, r_lFnTrueLists, hltI, hq7.facts, h0I]
        refine m_call (sDrawMeetIn_ok u more hlen.2 _ (by first | exact h'.ext hxL | exact h'.ext (dr hxL))) ?_
        rintro _ wa hxa ⟨la, ma, ya, za, rfl, hqa, hra, hla, hma⟩
        have hxLa : Ext w wa := by first | exact hxL.trans hxa | exact hxL.trans (ud hxa)
        simp only [↓vsd, vsn, gW, qd, qv, ev, pick, argE, zipE, ne_eq, eq_self, forall_const, implies_true, if_true, if_false, reduceIte, reduceCtorEq, Nat.reduceEqDiff, Nat.reduceAdd, Nat.reduceLT, ↓us_lFnTrueLists, r_lFnTrueLists]
        refine m_call (iMeetIn_ok ya za la ma (by omega) (by omega) _ hqa hra) ?_
        rintro _ wb hxb ⟨yb, rfl, hob⟩
        simp only [↓vsd, vsn, gW, qd, qv, ev, pick, argE, zipE, ne_eq, eq_self, forall_const, implies_true, if_true, if_false, reduceIte, reduceCtorEq, Nat.reduceEqDiff, Nat.reduceAdd, Nat.reduceLT, ↓us_lFnTrueLists, r_lFnTrueLists]
        refine m_call (sMeetIn_ok ya za la ma (by omega) (by omega) _ (hqa.ext hxb) (hra.ext hxb)) ?_
        rintro _ wc hxc ⟨yc, rfl, hoc⟩
        have hxLc := (hxLa.trans hxb).trans hxc
        have hob := hob.sq.ext hxc
        have hmv : (meetV la ma).length ≤ 400 := by
          unfold meetV; split
          · exact Nat.le_trans (meet_len _ _) hla
          · simp
        simp only [↓vsd, vsn, gW, qd, qv, ev, pick, argE, zipE, ne_eq, eq_self, forall_const, implies_true, if_true, if_false, reduceIte, reduceCtorEq, Nat.reduceEqDiff, Nat.reduceAdd, Nat.reduceLT, ↓us_lFnTrueLists, r_lFnTrueLists]
        refine m_call (sDrawTurnList_ok u more hlen.2 _ (h'.ext hxLc)) ?_
        rintro _ wd hxd ⟨ld, yd, kd, rfl, hqd, hld⟩
        simp only [↓vsd, vsn, gW, qd, qv, ev, pick, argE, zipE, ne_eq, eq_self, forall_const, implies_true, if_true, if_false, reduceIte, reduceCtorEq, Nat.reduceEqDiff, Nat.reduceAdd, Nat.reduceLT, ↓us_lFnTrueLists, r_lFnTrueLists]
        refine m_call (iTurnList_ok yd ld kd (by omega) _ hqd) ?_
        rintro _ we hxe ⟨ye, rfl, hoe⟩
        simp only [↓vsd, vsn, gW, qd, qv, ev, pick, argE, zipE, ne_eq, eq_self, forall_const, implies_true, if_true, if_false, reduceIte, reduceCtorEq, Nat.reduceEqDiff, Nat.reduceAdd, Nat.reduceLT, ↓us_lFnTrueLists, r_lFnTrueLists]
        refine m_call (sTurnList_ok yd ld kd (by omega) _ (hqd.ext hxe)) ?_
        rintro _ wf hxf ⟨yf, rfl, hof⟩
        have hxdf := (hxd.trans hxe).trans hxf
        have hxLf := hxLc.trans hxdf
        have hoe := hoe.sq.ext hxf
        have htv : (turnLV ld kd).length ≤ 400 := by
          unfold turnLV; split
          · rw [turnListL_len]; exact hld
          · simp
        simp only [↓vsd, vsn, gW, qd, qv, ev, pick, argE, zipE, ne_eq, eq_self, forall_const, implies_true, if_true, if_false, reduceIte, reduceCtorEq, Nat.reduceEqDiff, Nat.reduceAdd, Nat.reduceLT, ↓us_lFnTrueLists, r_lFnTrueLists]
        refine m_call (lsameTexts_ok yb yc _ _ _ (by first | exact hob.ext hxdf | exact (hob.ext hxdf).ext (dr (Ext.refl _))) (by first | exact hoc.sq.ext hxdf | exact (hoc.sq.ext hxdf).ext (dr (Ext.refl _))) (by omega)) ?_
        rintro _ wg hxg rfl
        have hxg : Ext wf wg := by first | exact hxg | exact ud hxg | exact ud (ud hxg)
        simp only [↓vsd, vsn, gW, qd, qv, ev, pick, argE, zipE, ne_eq, eq_self, forall_const, implies_true, if_true, if_false, reduceIte, reduceCtorEq, Nat.reduceEqDiff, Nat.reduceAdd, Nat.reduceLT, ↓us_lFnTrueLists, r_lFnTrueLists]
        refine m_call (lsameTexts_ok ye yf _ _ _ (by first | exact hoe.ext hxg | exact (hoe.ext hxg).ext (dr (Ext.refl _))) (by first | exact hof.sq.ext hxg | exact (hof.sq.ext hxg).ext (dr (Ext.refl _))) (by omega)) ?_
        rintro _ wh hxh rfl
        have hxh : Ext wg wh := by first | exact hxh | exact ud hxh | exact ud (ud hxh)
        have hxLh := (hxLf.trans hxg).trans hxh
        have hoh := (hoe.ext hxg).ext hxh
        by_cases htk : TurnOk ld kd
        · have hn := htk.1.1
          have h0 : 0 < ld.length := by have := htk.2; omega
          have hkl : kd.toNat < ld.length := by have := htk.2; omega
          have etv : turnLV ld kd = turnListL ld kd.toNat := by rw [turnLV, if_pos htk]
          have hf := turnListL_first hn hkl
          have hll := turnListL_len ld kd.toNat
          have h38 := (hn _ (getD_mem [] h0)).1.1
          rw [etv] at hoh
          generalize turnListL ld kd.toNat = T at *
          have hT0 : 0 < T.length := by omega
          have hT0I : (0 : Int) < T.length := by omega
          have ah := hoh.at0 [] hT0
          rw [hf] at ah
          have hrl := roundsL_len (ld.getD 0 []).length
          have htD := decide_eq_true htk
          simp only [↓vsd, vsn, gW, qd, qv, ev, pick, argE, zipE, ne_eq, eq_self, forall_const, implies_true, if_true, if_false, reduceIte, reduceCtorEq, Nat.reduceEqDiff, Nat.reduceAdd, Nat.reduceLT, ↓us_lFnTrueLists, r_lFnTrueLists, htD, hoh.facts, hT0I, ah, hrl]
          refine ⟨by omega, m_call (iRoundsOf_ok ((ld.getD 0 []).length : Nat) _) ?_⟩
          rintro _ wi hxi hri
          rw [roundsV, if_pos ⟨by omega, by omega⟩, Int.toNat_natCast] at hri
          subst hri
          have hoi := hoh.ext hxi
          have ai := hoi.at0 [] hT0
          rw [hf] at ai
          simp only [↓vsd, vsn, gW, qd, qv, ev, pick, argE, zipE, ne_eq, eq_self, forall_const, implies_true, if_true, if_false, reduceIte, reduceCtorEq, Nat.reduceEqDiff, Nat.reduceAdd, Nat.reduceLT, ↓us_lFnTrueLists, r_lFnTrueLists, hoi.facts, hoh.facts, ai, ah]
          exact ⟨by omega, hxLh.trans hxi⟩
        · have htD := decide_eq_false htk
          simp only [↓vsd, vsn, gW, qd, qv, ev, pick, argE, zipE, ne_eq, eq_self, forall_const, implies_true, if_true, if_false, reduceIte, reduceCtorEq, Nat.reduceEqDiff, Nat.reduceAdd, Nat.reduceLT, ↓us_lFnTrueLists, r_lFnTrueLists, htD]
          exact hxLh
  · have hR : decide (IsRows l) = false := decide_eq_false hr
    have hND : decide (IsRows l ∧ l.Nodup) = false := decide_eq_false fun hh => hr hh.1
    have hxL := hx06
    simp only [↓vsd, vsn, gW, qd, qv, ev, pick, argE, zipE, ne_eq, eq_self, forall_const, implies_true, if_true, if_false, reduceIte, reduceCtorEq, Nat.reduceEqDiff, Nat.reduceAdd, Nat.reduceLT, ↓us_lFnTrueLists, r_lFnTrueLists, hR, hND]
    refine m_call (sDrawMeetIn_ok u more hlen.2 _ (by first | exact h'.ext hxL | exact h'.ext (dr hxL))) ?_
    rintro _ wa hxa ⟨la, ma, ya, za, rfl, hqa, hra, hla, hma⟩
    have hxLa : Ext w wa := by first | exact hxL.trans hxa | exact hxL.trans (ud hxa)
    simp only [↓vsd, vsn, gW, qd, qv, ev, pick, argE, zipE, ne_eq, eq_self, forall_const, implies_true, if_true, if_false, reduceIte, reduceCtorEq, Nat.reduceEqDiff, Nat.reduceAdd, Nat.reduceLT, ↓us_lFnTrueLists, r_lFnTrueLists]
    refine m_call (iMeetIn_ok ya za la ma (by omega) (by omega) _ hqa hra) ?_
    rintro _ wb hxb ⟨yb, rfl, hob⟩
    simp only [↓vsd, vsn, gW, qd, qv, ev, pick, argE, zipE, ne_eq, eq_self, forall_const, implies_true, if_true, if_false, reduceIte, reduceCtorEq, Nat.reduceEqDiff, Nat.reduceAdd, Nat.reduceLT, ↓us_lFnTrueLists, r_lFnTrueLists]
    refine m_call (sMeetIn_ok ya za la ma (by omega) (by omega) _ (hqa.ext hxb) (hra.ext hxb)) ?_
    rintro _ wc hxc ⟨yc, rfl, hoc⟩
    have hxLc := (hxLa.trans hxb).trans hxc
    have hob := hob.sq.ext hxc
    have hmv : (meetV la ma).length ≤ 400 := by
      unfold meetV; split
      · exact Nat.le_trans (meet_len _ _) hla
      · simp
    simp only [↓vsd, vsn, gW, qd, qv, ev, pick, argE, zipE, ne_eq, eq_self, forall_const, implies_true, if_true, if_false, reduceIte, reduceCtorEq, Nat.reduceEqDiff, Nat.reduceAdd, Nat.reduceLT, ↓us_lFnTrueLists, r_lFnTrueLists]
    refine m_call (sDrawTurnList_ok u more hlen.2 _ (h'.ext hxLc)) ?_
    rintro _ wd hxd ⟨ld, yd, kd, rfl, hqd, hld⟩
    simp only [↓vsd, vsn, gW, qd, qv, ev, pick, argE, zipE, ne_eq, eq_self, forall_const, implies_true, if_true, if_false, reduceIte, reduceCtorEq, Nat.reduceEqDiff, Nat.reduceAdd, Nat.reduceLT, ↓us_lFnTrueLists, r_lFnTrueLists]
    refine m_call (iTurnList_ok yd ld kd (by omega) _ hqd) ?_
    rintro _ we hxe ⟨ye, rfl, hoe⟩
    simp only [↓vsd, vsn, gW, qd, qv, ev, pick, argE, zipE, ne_eq, eq_self, forall_const, implies_true, if_true, if_false, reduceIte, reduceCtorEq, Nat.reduceEqDiff, Nat.reduceAdd, Nat.reduceLT, ↓us_lFnTrueLists, r_lFnTrueLists]
    refine m_call (sTurnList_ok yd ld kd (by omega) _ (hqd.ext hxe)) ?_
    rintro _ wf hxf ⟨yf, rfl, hof⟩
    have hxdf := (hxd.trans hxe).trans hxf
    have hxLf := hxLc.trans hxdf
    have hoe := hoe.sq.ext hxf
    have htv : (turnLV ld kd).length ≤ 400 := by
      unfold turnLV; split
      · rw [turnListL_len]; exact hld
      · simp
    simp only [↓vsd, vsn, gW, qd, qv, ev, pick, argE, zipE, ne_eq, eq_self, forall_const, implies_true, if_true, if_false, reduceIte, reduceCtorEq, Nat.reduceEqDiff, Nat.reduceAdd, Nat.reduceLT, ↓us_lFnTrueLists, r_lFnTrueLists]
    refine m_call (lsameTexts_ok yb yc _ _ _ (by first | exact hob.ext hxdf | exact (hob.ext hxdf).ext (dr (Ext.refl _))) (by first | exact hoc.sq.ext hxdf | exact (hoc.sq.ext hxdf).ext (dr (Ext.refl _))) (by omega)) ?_
    rintro _ wg hxg rfl
    have hxg : Ext wf wg := by first | exact hxg | exact ud hxg | exact ud (ud hxg)
    simp only [↓vsd, vsn, gW, qd, qv, ev, pick, argE, zipE, ne_eq, eq_self, forall_const, implies_true, if_true, if_false, reduceIte, reduceCtorEq, Nat.reduceEqDiff, Nat.reduceAdd, Nat.reduceLT, ↓us_lFnTrueLists, r_lFnTrueLists]
    refine m_call (lsameTexts_ok ye yf _ _ _ (by first | exact hoe.ext hxg | exact (hoe.ext hxg).ext (dr (Ext.refl _))) (by first | exact hof.sq.ext hxg | exact (hof.sq.ext hxg).ext (dr (Ext.refl _))) (by omega)) ?_
    rintro _ wh hxh rfl
    have hxh : Ext wg wh := by first | exact hxh | exact ud hxh | exact ud (ud hxh)
    have hxLh := (hxLf.trans hxg).trans hxh
    have hoh := (hoe.ext hxg).ext hxh
    by_cases htk : TurnOk ld kd
    · have hn := htk.1.1
      have h0 : 0 < ld.length := by have := htk.2; omega
      have hkl : kd.toNat < ld.length := by have := htk.2; omega
      have etv : turnLV ld kd = turnListL ld kd.toNat := by rw [turnLV, if_pos htk]
      have hf := turnListL_first hn hkl
      have hll := turnListL_len ld kd.toNat
      have h38 := (hn _ (getD_mem [] h0)).1.1
      rw [etv] at hoh
      generalize turnListL ld kd.toNat = T at *
      have hT0 : 0 < T.length := by omega
      have hT0I : (0 : Int) < T.length := by omega
      have ah := hoh.at0 [] hT0
      rw [hf] at ah
      have hrl := roundsL_len (ld.getD 0 []).length
      have htD := decide_eq_true htk
      simp only [↓vsd, vsn, gW, qd, qv, ev, pick, argE, zipE, ne_eq, eq_self, forall_const, implies_true, if_true, if_false, reduceIte, reduceCtorEq, Nat.reduceEqDiff, Nat.reduceAdd, Nat.reduceLT, ↓us_lFnTrueLists, r_lFnTrueLists, htD, hoh.facts, hT0I, ah, hrl]
      refine ⟨by omega, m_call (iRoundsOf_ok ((ld.getD 0 []).length : Nat) _) ?_⟩
      rintro _ wi hxi hri
      rw [roundsV, if_pos ⟨by omega, by omega⟩, Int.toNat_natCast] at hri
      subst hri
      have hoi := hoh.ext hxi
      have ai := hoi.at0 [] hT0
      rw [hf] at ai
      simp only [↓vsd, vsn, gW, qd, qv, ev, pick, argE, zipE, ne_eq, eq_self, forall_const, implies_true, if_true, if_false, reduceIte, reduceCtorEq, Nat.reduceEqDiff, Nat.reduceAdd, Nat.reduceLT, ↓us_lFnTrueLists, r_lFnTrueLists, hoi.facts, hoh.facts, ai, ah]
      exact ⟨by omega, hxLh.trans hxi⟩
    · have htD := decide_eq_false htk
      simp only [↓vsd, vsn, gW, qd, qv, ev, pick, argE, zipE, ne_eq, eq_self, forall_const, implies_true, if_true, if_false, reduceIte, reduceCtorEq, Nat.reduceEqDiff, Nat.reduceAdd, Nat.reduceLT, ↓us_lFnTrueLists, r_lFnTrueLists, htD]
      exact hxLh
end Go.Proofs.Ytnincmnkdjlndaa
