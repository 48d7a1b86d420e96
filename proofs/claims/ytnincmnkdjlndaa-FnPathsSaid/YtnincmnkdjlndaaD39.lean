/-
  The drawing of methods and of paths, and the call of the law FnPaths.
  Conditions: none.
-/
import Derived.Test.YtnincmnkdjlndaaD37
import Derived.Test.YtnincmnkdjlndaaA69
import Derived.Test.YtnincmnkdjlndaaD3
import Derived.Test.YtnincmnkdjlndaaA24
import Derived.Test.YtnincmnkdjlndaaA26
import Derived.Test.YtnincmnkdjlndaaA36
set_option linter.unusedSimpArgs false
set_option linter.unusedVariables false
set_option linter.defProp false
namespace Go.Proofs.Ytnincmnkdjlndaa
open Go Go.RowKit
section
variable (P : Program) (k : KT) (e : Env) (w : World)
abbrev b134_1 : X := (.seq (.reg [2] (.c (.q 7 [] (.mv (.t 3))) (.c (.e (some 8) [] (.call true 152 [(.t 7)])) (.c (.e none [] (.st 3 (.t 2) (.t 8))) .nil)))) .ret)
def t134_1 := b134_1
theorem u134_1 : vcK P t134_1 k e w = vcK P b134_1 k e w := rfl
abbrev b134_2 : X := (.seq (.reg [2, 3] (.c (.q 4 [] (.mv (.t 0))) (.c (.q 5 [] (.bld [(.slice none 0 0), (.int .i64 0), (.int .u64 0)] [(0, 0, (.t 4))])) (.c (.e (some 6) [] (.box 121 (.t 5))) (.c (.q 3 [] (.mv (.t 6))) .nil))))) t134_1)
def t134_2 := b134_2
theorem u134_2 : vcK P t134_2 k e w = vcK P b134_2 k e w := rfl
abbrev b134_0 : X := (.seq (.reg [0, 2] (.c (.e (some 2) [] (.al 26 [(S []), (.int .i64 0), (.slice none 0 0)])) .nil)) t134_2)
def x_sDrawGoodMethod := b134_0
theorem u134_0 : vcK P x_sDrawGoodMethod k e w = vcK P b134_0 k e w := rfl
def r_sDrawGoodMethod : List XO := [(.lda 3 (.t 2))]
theorem c_sDrawGoodMethod : convF Try.prog [147, 148, 152, 160, 162, 163, 170, 178, 206, 208, 210, 224, 233, 235, 236, 251, 264, 265, 268, 270, 287, 322] Try.f134 [([0, 2], []), ([2, 3], []), ([2], [])] = some (x_sDrawGoodMethod, r_sDrawGoodMethod) := by kernel_rfl
def us_sDrawGoodMethod :=  (aI @u134_0 (aI @u134_1 @u134_2))
abbrev b15_1 : X := (.seq (.reg [2] (.c (.q 3 [] (.mv (.t 0))) (.c (.e (some 4) [] (.call false 134 [(.t 3)])) (.c (.e none [] (.st 3 (.t 2) (.t 4))) .nil)))) .ret)
def t15_1 := b15_1
theorem u15_1 : vcK P t15_1 k e w = vcK P b15_1 k e w := rfl
abbrev b15_0 : X := (.seq (.reg [0, 2] (.c (.e (some 2) [] (.al 26 [(S []), (.int .i64 0), (.slice none 0 0)])) .nil)) t15_1)
def x_sDrawPathsOf := b15_0
theorem u15_0 : vcK P x_sDrawPathsOf k e w = vcK P b15_0 k e w := rfl
def r_sDrawPathsOf : List XO := [(.lda 3 (.t 2))]
theorem c_sDrawPathsOf : convF Try.prog [147, 148, 152, 160, 162, 163, 170, 178, 206, 208, 210, 224, 233, 235, 236, 251, 264, 265, 268, 270, 287, 322] Try.f15 [([0, 2], []), ([2], [])] = some (x_sDrawPathsOf, r_sDrawPathsOf) := by kernel_rfl
def us_sDrawPathsOf :=  (aI @u15_0 @u15_1)
abbrev b27_1 : X := (.cond (.t 38) (.reg [4] (.c (.q 40 [] (.mv (.t 4))) (.c (.q 41 [] (.mv (.t 6))) (.c (.q 42 [] (.mv (.t 4))) (.c (.q 43 [] (.mv (.t 6))) (.c (.q 44 [] (.ia 1 (.t 42) (.t 43))) (.c (.q 45 [] (.ld (.t 44))) (.c (.q 46 [] (.ssl 1 (.t 45) (some (.c (.int .i64 1))) none)) (.c (.q 47 [] (.ia 1 (.t 40) (.t 41))) (.c (.e none [] (.st 1 (.t 47) (.t 46))) .nil)))))))))) .skip)
def t27_1 := b27_1
theorem u27_1 : vcK P t27_1 k e w = vcK P b27_1 k e w := rfl
abbrev b27_2 : X := (.cond (.t 34) (.reg [4] (.c (.q 36 [] (.mv (.t 4))) (.c (.q 37 [] (.ssl 1 (.t 36) (some (.c (.int .i64 1))) none)) (.c (.q 4 [] (.mv (.t 37))) .nil)))) (.seq (.reg [4, 6, 38] (.c (.q 39 [] (.bin .eql (.t 24) (.c (.int .i64 2)))) (.c (.q 38 [] (.mv (.t 39))) .nil))) t27_1))
def t27_2 := b27_2
theorem u27_2 : vcK P t27_2 k e w = vcK P b27_2 k e w := rfl
abbrev b27_3 : X := (.cond (.t 25) (.drw [4] (.c (.q 27 [] (.mv (.t 4))) (.c (.q 28 [] (.mv (.t 6))) (.c (.q 29 [] (.ia 1 (.t 27) (.t 28))) (.c (.q 31 [] (.mv (.t 3))) (.alt (.c (.p 30 [] (.ld (.t 29))) (.c (.e (some 32) [] (.call true 148 [(.t 31), (.c (.int .i64 9))])) (.c (.q 33 [] (.ia 1 (.t 30) (.c (.int .i64 0)))) (.c (.e none [] (.st 1 (.t 33) (.t 32))) .nil)))) (.c (.e (some 32) [] (.call true 148 [(.t 31), (.c (.int .i64 9))])) (.c (.p 30 [] (.ld (.t 29))) (.c (.q 33 [] (.ia 1 (.t 30) (.c (.int .i64 0)))) (.c (.e none [] (.st 1 (.t 33) (.t 32))) .nil)))))))))) (.seq (.reg [4, 6, 24, 34] (.c (.q 35 [] (.bin .eql (.t 24) (.c (.int .i64 1)))) (.c (.q 34 [] (.mv (.t 35))) .nil))) t27_2))
def t27_3 := b27_3
theorem u27_3 : vcK P t27_3 k e w = vcK P b27_3 k e w := rfl
abbrev b27_4 : X := (.blk 0 (.seq (.reg [3, 4, 6, 24, 25] (.c (.q 26 [] (.bin .eql (.t 24) (.c (.int .i64 0)))) (.c (.q 25 [] (.mv (.t 26))) .nil))) t27_3))
def t27_4 := b27_4
theorem u27_4 : vcK P t27_4 k e w = vcK P b27_4 k e w := rfl
abbrev b27_5 : X := (.seq (.reg [3, 4, 6, 24] (.c (.q 23 [] (.mv (.t 3))) (.c (.e (some 24) [] (.call true 148 [(.t 23), (.c (.int .i64 10))])) .nil))) t27_4)
def t27_5 := b27_5
theorem u27_5 : vcK P t27_5 k e w = vcK P b27_5 k e w := rfl
abbrev b27_6 : X := (.cond (.t 18) (.seq (.reg [3, 4, 6] (.c (.q 19 [] (.mv (.t 3))) (.c (.q 20 [] (.mv (.t 4))) (.c (.q 21 [] (.lens (.t 20))) (.c (.e (some 22) [] (.call true 148 [(.t 19), (.t 21)])) (.c (.q 6 [] (.mv (.t 22))) .nil)))))) t27_5) .skip)
def t27_6 := b27_6
theorem u27_6 : vcK P t27_6 k e w = vcK P b27_6 k e w := rfl
abbrev b27_7 : X := (.seq (.reg [2] (.c (.q 48 [] (.mv (.t 4))) (.c (.q 2 [] (.mv (.t 48))) .nil))) .ret)
def t27_7 := b27_7
theorem u27_7 : vcK P t27_7 k e w = vcK P b27_7 k e w := rfl
abbrev b27_8 : X := (.seq (.seq (.reg [3, 4, 18] (.c (.q 16 [] (.mv (.t 4))) (.c (.q 17 [] (.lens (.t 16))) (.c (.q 18 [] (.bin .gtr (.t 17) (.c (.int .i64 0)))) .nil)))) t27_6) t27_7)
def t27_8 := b27_8
theorem u27_8 : vcK P t27_8 k e w = vcK P b27_8 k e w := rfl
abbrev b27_9 : X := (.seq (.reg [3, 4] (.c (.q 11 [] (.mv (.t 3))) (.c (.e (some 12) [] (.call true 147 [(.t 11)])) (.c (.e (some 13) [] (.call false 17 [(.t 12)])) (.c (.q 10 [] (.mv (.t 13))) (.c (.q 14 [] (.ext 0 (.t 10))) (.c (.q 15 [] (.ext 1 (.t 10))) (.c (.q 4 [] (.mv (.t 14))) (.c (.q 5 [] (.mv (.t 15))) .nil))))))))) t27_8)
def t27_9 := b27_9
theorem u27_9 : vcK P t27_9 k e w = vcK P b27_9 k e w := rfl
abbrev b27_10 : X := (.seq (.reg [3] (.c (.q 7 [] (.mv (.t 0))) (.c (.q 8 [] (.bld [(.slice none 0 0), (.int .i64 0), (.int .u64 0)] [(0, 0, (.t 7))])) (.c (.e (some 9) [] (.box 121 (.t 8))) (.c (.q 3 [] (.mv (.t 9))) .nil))))) t27_9)
def t27_10 := b27_10
theorem u27_10 : vcK P t27_10 k e w = vcK P b27_10 k e w := rfl
abbrev b27_0 : X := (.seq (.reg [0] (.c (.q 2 [] (.mv (.c (.slice none 0 0)))) .nil)) t27_10)
def x_sDrawRowsOf := b27_0
theorem u27_0 : vcK P x_sDrawRowsOf k e w = vcK P b27_0 k e w := rfl
def r_sDrawRowsOf : List XO := [(.mv (.t 2))]
theorem c_sDrawRowsOf : convF Try.prog [147, 148, 152, 160, 162, 163, 170, 178, 206, 208, 210, 224, 233, 235, 236, 251, 264, 265, 268, 270, 287, 322] Try.f27 [([0], []), ([3], []), ([3, 4], []), ([3, 4, 18], []), ([3, 4, 6], []), ([3, 4, 6, 24], []), ([3, 4, 6, 24, 25], []), ([4], []), ([4, 6, 24, 34], []), ([4], []), ([4, 6, 38], []), ([4], []), ([2], [])] = some (x_sDrawRowsOf, r_sDrawRowsOf) := by kernel_rfl
def us_sDrawRowsOf :=  (aI (aI (aI @u27_0 @u27_1) (aI @u27_2 (aI @u27_3 @u27_4))) (aI (aI @u27_5 (aI @u27_6 @u27_7)) (aI @u27_8 (aI @u27_9 @u27_10))))
abbrev b144_1 : X := (.cond (.t 4) (.seq (.reg [2] (.c (.q 2 [] (.mv (.c (.slice none 0 0)))) .nil)) .ret) .skip)
def t144_1 := b144_1
theorem u144_1 : vcK P t144_1 k e w = vcK P b144_1 k e w := rfl
abbrev b144_2 : X := (.seq (.reg [2] (.c (.e (some 5) [] (.bsl 9 1 [])) (.c (.q 6 [] (.mv (.t 0))) (.c (.e (some 7) [] (.app 24 9 1 16 [(S [])] 24 (.t 5) (.t 6))) (.c (.q 2 [] (.mv (.t 7))) .nil))))) .ret)
def t144_2 := b144_2
theorem u144_2 : vcK P t144_2 k e w = vcK P b144_2 k e w := rfl
abbrev b144_3 : X := (.seq (.seq (.reg [0, 4] (.c (.q 3 [] (.mv (.t 0))) (.c (.q 4 [] (.snil false (.t 3) (.c (.slice none 0 0)))) .nil))) t144_1) t144_2)
def t144_3 := b144_3
theorem u144_3 : vcK P t144_3 k e w = vcK P b144_3 k e w := rfl
abbrev b144_0 : X := (.seq (.reg [0] (.c (.q 2 [] (.mv (.c (.slice none 0 0)))) .nil)) t144_3)
def x_xslices_Clone_string_string := b144_0
theorem u144_0 : vcK P x_xslices_Clone_string_string k e w = vcK P b144_0 k e w := rfl
def r_xslices_Clone_string_string : List XO := [(.mv (.t 2))]
theorem c_xslices_Clone_string_string : convF Try.prog [147, 148, 152, 160, 162, 163, 170, 178, 206, 208, 210, 224, 233, 235, 236, 251, 264, 265, 268, 270, 287, 322] Try.f144 [([0], []), ([0, 4], []), ([2], []), ([2], [])] = some (x_xslices_Clone_string_string, r_xslices_Clone_string_string) := by kernel_rfl
def us_xslices_Clone_string_string :=  (aI (aI @u144_0 @u144_1) (aI @u144_2 @u144_3))
abbrev b21_1 : X := (.cond (.t 15) (.seq (.reg [4, 5] (.c (.q 4 [] (.mv (.c (.slice none 0 0)))) (.c (.q 5 [] (.mv (.c (.bool false)))) .nil))) .ret) .skip)
def t21_1 := b21_1
theorem u21_1 : vcK P t21_1 k e w = vcK P b21_1 k e w := rfl
abbrev b21_2 : X := (.seq (.reg [4, 5] (.c (.q 16 [] (.lda 3 (.t 2))) (.c (.q 17 [] (.mv (.t 1))) (.c (.e (some 18) [] (.call false 145 [(.t 16), (.t 17)])) (.c (.e (some 19) [] (.call false 144 [(.t 18)])) (.c (.q 4 [] (.mv (.t 19))) (.c (.q 5 [] (.mv (.c (.bool true)))) .nil))))))) .ret)
def t21_2 := b21_2
theorem u21_2 : vcK P t21_2 k e w = vcK P b21_2 k e w := rfl
abbrev b21_3 : X := (.seq (.seq (.reg [1, 2, 15] (.c (.q 6 [] (.lda 3 (.t 2))) (.c (.e (some 7) [] (.call false 135 [(.t 6)])) (.c (.q 8 [] (.not (.t 7))) (.c (.q 9 [] (.mv (.t 8))) (.c (.q 10 [(9, false)] (.fa 1 (.t 2))) (.c (.q 11 [(9, false)] (.ld (.t 10))) (.c (.q 12 [(9, false)] (.mv (.t 1))) (.c (.e (some 13) [(9, false)] (.call false 143 [(.t 11), (.t 12)])) (.c (.q 14 [(9, false)] (.not (.t 13))) (.c (.q 15 [] (.pick (.t 9) (.c (.bool true)) (.t 14))) .nil))))))))))) t21_1) t21_2)
def t21_3 := b21_3
theorem u21_3 : vcK P t21_3 k e w = vcK P b21_3 k e w := rfl
abbrev b21_0 : X := (.seq (.reg [1, 2] (.c (.e (some 2) [] (.box 26 (.t 0))) (.c (.q 4 [] (.mv (.c (.slice none 0 0)))) (.c (.q 5 [] (.mv (.c (.bool false)))) .nil)))) t21_3)
def x_iLeadRows := b21_0
theorem u21_0 : vcK P x_iLeadRows k e w = vcK P b21_0 k e w := rfl
def r_iLeadRows : List XO := [(.mv (.t 4)), (.mv (.t 5))]
theorem c_iLeadRows : convF Try.prog [147, 148, 152, 160, 162, 163, 170, 178, 206, 208, 210, 224, 233, 235, 236, 251, 264, 265, 268, 270, 287, 322] Try.f21 [([1, 2], []), ([1, 2, 15], []), ([4, 5], []), ([4, 5], [])] = some (x_iLeadRows, r_iLeadRows) := by kernel_rfl
def us_iLeadRows :=  (aI (aI @u21_0 @u21_1) (aI @u21_2 @u21_3))
abbrev b18_1 : X := (.cond (.t 10) (.seq (.reg [4] (.c (.q 4 [] (.mv (.c (.bool false)))) .nil)) .ret) .skip)
def t18_1 := b18_1
theorem u18_1 : vcK P t18_1 k e w = vcK P b18_1 k e w := rfl
abbrev b18_2 : X := (.cond (.t 25) (.seq (.reg [4] (.c (.q 4 [] (.mv (.c (.bool false)))) .nil)) .ret) .skip)
def t18_2 := b18_2
theorem u18_2 : vcK P t18_2 k e w = vcK P b18_2 k e w := rfl
abbrev b18_3 : X := (.seq (.drw [0, 1, 12, 13, 25] (.c (.q 16 [] (.mv (.t 0))) (.c (.q 17 [] (.mv (.t 5))) (.c (.q 18 [] (.ia 1 (.t 16) (.t 17))) (.c (.q 19 [] (.ld (.t 18))) (.c (.q 20 [] (.mv (.t 1))) (.c (.q 21 [] (.mv (.t 5))) (.c (.q 22 [] (.ia 1 (.t 20) (.t 21))) (.c (.q 23 [] (.ld (.t 22))) (.c (.e (some 24) [] (.call false 26 [(.t 19), (.t 23)])) (.c (.q 25 [] (.not (.t 24))) .nil))))))))))) t18_2)
def t18_3 := b18_3
theorem u18_3 : vcK P t18_3 k e w = vcK P b18_3 k e w := rfl
abbrev b18_4 : X := (.reg [0, 1, 12, 13] (.c (.q 26 [] (.bin .add (.t 13) (.c (.int .i64 1)))) (.c (.q 13 [] (.mv (.t 26))) .nil)))
def t18_4 := b18_4
theorem u18_4 : vcK P t18_4 k e w = vcK P b18_4 k e w := rfl
abbrev b18_5 : X := (.seq (.blk 1 (.seq (.reg [0, 1, 5, 12, 13] (.c (.q 15 [] (.mv (.t 13))) (.c (.q 5 [] (.mv (.t 15))) .nil))) t18_3)) t18_4)
def t18_5 := b18_5
theorem u18_5 : vcK P t18_5 k e w = vcK P b18_5 k e w := rfl
abbrev b18_6 : X := (.seq (.cond (.t 14) .skip (.exit 0)) t18_5)
def t18_6 := b18_6
theorem u18_6 : vcK P t18_6 k e w = vcK P b18_6 k e w := rfl
abbrev b18_7 : X := (.seq (.reg [0, 1, 12, 13, 14] (.c (.q 14 [] (.bin .lss (.t 13) (.t 12))) .nil)) t18_6)
def t18_7 := b18_7
theorem u18_7 : vcK P t18_7 k e w = vcK P b18_7 k e w := rfl
abbrev b18_8 : X := (.blk 0 (.loop [13] [0, 1, 12] t18_7))
def t18_8 := b18_8
theorem u18_8 : vcK P t18_8 k e w = vcK P b18_8 k e w := rfl
abbrev b18_9 : X := (.seq (.reg [4] (.c (.q 4 [] (.mv (.c (.bool true)))) .nil)) .ret)
def t18_9 := b18_9
theorem u18_9 : vcK P t18_9 k e w = vcK P b18_9 k e w := rfl
abbrev b18_10 : X := (.seq (.seq (.reg [0, 1, 12, 13] (.c (.q 11 [] (.mv (.t 0))) (.c (.q 12 [] (.lens (.t 11))) (.c (.q 13 [] (.mv (.c (.int .i64 0)))) .nil)))) t18_8) t18_9)
def t18_10 := b18_10
theorem u18_10 : vcK P t18_10 k e w = vcK P b18_10 k e w := rfl
abbrev b18_11 : X := (.seq (.seq (.reg [0, 1, 10] (.c (.q 6 [] (.mv (.t 0))) (.c (.q 7 [] (.lens (.t 6))) (.c (.q 8 [] (.mv (.t 1))) (.c (.q 9 [] (.lens (.t 8))) (.c (.q 10 [] (.bin .neq (.t 7) (.t 9))) .nil)))))) t18_1) t18_10)
def t18_11 := b18_11
theorem u18_11 : vcK P t18_11 k e w = vcK P b18_11 k e w := rfl
abbrev b18_0 : X := (.seq (.reg [0, 1] (.c (.q 4 [] (.mv (.c (.bool false)))) .nil)) t18_11)
def x_lsameLists := b18_0
theorem u18_0 : vcK P x_lsameLists k e w = vcK P b18_0 k e w := rfl
def r_lsameLists : List XO := [(.mv (.t 4))]
theorem c_lsameLists : convF Try.prog [147, 148, 152, 160, 162, 163, 170, 178, 206, 208, 210, 224, 233, 235, 236, 251, 264, 265, 268, 270, 287, 322] Try.f18 [([0, 1], []), ([0, 1, 10], []), ([4], []), ([0, 1, 12, 13], []), ([13], [0, 1, 12]), ([0, 1, 12, 13, 14], []), ([0, 1, 5, 12, 13], []), ([0, 1, 12, 13, 25], []), ([4], []), ([0, 1, 12, 13], []), ([4], [])] = some (x_lsameLists, r_lsameLists) := by kernel_rfl
def us_lsameLists :=  (aI (aI (aI @u18_0 (aI @u18_1 @u18_2)) (aI @u18_3 (aI @u18_4 @u18_5))) (aI (aI @u18_6 (aI @u18_7 @u18_8)) (aI @u18_9 (aI @u18_10 @u18_11))))
abbrev b3_1 : X := (.cond (.t 43) (.seq (.reg [4] (.c (.q 4 [] (.mv (.c (.bool true)))) .nil)) .ret) .skip)
def t3_1 := b3_1
theorem u3_1 : vcK P t3_1 k e w = vcK P b3_1 k e w := rfl
abbrev b3_2 : X := (.cond (.t 64) (.seq (.reg [4] (.c (.q 4 [] (.mv (.c (.bool false)))) .nil)) .ret) .skip)
def t3_2 := b3_2
theorem u3_2 : vcK P t3_2 k e w = vcK P b3_2 k e w := rfl
abbrev b3_3 : X := (.cond (.t 119) (.seq (.reg [4] (.c (.q 4 [] (.mv (.c (.bool false)))) .nil)) .ret) .skip)
def t3_3 := b3_3
theorem u3_3 : vcK P t3_3 k e w = vcK P b3_3 k e w := rfl
abbrev b3_4 : X := (.cond (.t 160) (.seq (.reg [4] (.c (.q 4 [] (.mv (.c (.bool false)))) .nil)) .ret) .skip)
def t3_4 := b3_4
theorem u3_4 : vcK P t3_4 k e w = vcK P b3_4 k e w := rfl
abbrev b3_5 : X := (.cond (.t 164) .skip (.exit 2))
def t3_5 := b3_5
theorem u3_5 : vcK P t3_5 k e w = vcK P b3_5 k e w := rfl
abbrev b3_6 : X := (.cond (.t 182) (.seq (.reg [4] (.c (.q 4 [] (.mv (.c (.bool false)))) .nil)) .ret) .skip)
def t3_6 := b3_6
theorem u3_6 : vcK P t3_6 k e w = vcK P b3_6 k e w := rfl
abbrev b3_7 : X := (.seq (.reg [1, 5, 19, 24, 120, 121, 122, 182] (.c (.q 177 [] (.mv (.t 25))) (.c (.q 178 [] (.bin .lss (.t 177) (.c (.int .i64 (-1))))) (.c (.q 179 [] (.mv (.t 178))) (.c (.q 180 [(179, false)] (.mv (.t 25))) (.c (.q 181 [(179, false)] (.bin .gtr (.t 180) (.c (.int .i64 1)))) (.c (.q 182 [] (.pick (.t 179) (.c (.bool true)) (.t 181))) .nil))))))) t3_6)
def t3_7 := b3_7
theorem u3_7 : vcK P t3_7 k e w = vcK P b3_7 k e w := rfl
abbrev b3_8 : X := (.reg [1, 5, 19, 24, 120, 121, 122] (.c (.q 165 [] (.mv (.t 24))) (.c (.q 166 [] (.bin .add (.t 165) (.c (.int .i64 1)))) (.c (.q 24 [] (.mv (.t 166))) .nil))))
def t3_8 := b3_8
theorem u3_8 : vcK P t3_8 k e w = vcK P b3_8 k e w := rfl
abbrev b3_9 : X := (.seq (.blk 3 (.seq (.drw [1, 5, 19, 24, 25, 120, 121, 122] (.c (.q 167 [] (.mv (.t 19))) (.c (.q 168 [] (.mv (.t 24))) (.c (.q 169 [] (.ia 1 (.t 167) (.t 168))) (.c (.q 170 [] (.ld (.t 169))) (.c (.q 171 [] (.mv (.t 19))) (.c (.q 172 [] (.mv (.t 24))) (.c (.q 173 [] (.bin .sub (.t 172) (.c (.int .i64 1)))) (.c (.q 174 [] (.ia 1 (.t 171) (.t 173))) (.c (.q 175 [] (.ld (.t 174))) (.c (.q 176 [] (.bin .sub (.t 170) (.t 175))) (.c (.q 25 [] (.mv (.t 176))) .nil)))))))))))) t3_7)) t3_8)
def t3_9 := b3_9
theorem u3_9 : vcK P t3_9 k e w = vcK P b3_9 k e w := rfl
abbrev b3_10 : X := (.seq (.seq (.reg [1, 5, 19, 24, 120, 121, 122, 164] (.c (.q 161 [] (.mv (.t 24))) (.c (.q 162 [] (.mv (.t 19))) (.c (.q 163 [] (.lens (.t 162))) (.c (.q 164 [] (.bin .lss (.t 161) (.t 163))) .nil))))) t3_5) t3_9)
def t3_10 := b3_10
theorem u3_10 : vcK P t3_10 k e w = vcK P b3_10 k e w := rfl
abbrev b3_11 : X := (.blk 2 (.loop [24] [1, 5, 19, 120, 121, 122] t3_10))
def t3_11 := b3_11
theorem u3_11 : vcK P t3_11 k e w = vcK P b3_11 k e w := rfl
abbrev b3_12 : X := (.seq (.reg [1, 5, 19, 24, 120, 121, 122] (.c (.q 24 [] (.mv (.c (.int .i64 1)))) .nil)) t3_11)
def t3_12 := b3_12
theorem u3_12 : vcK P t3_12 k e w = vcK P b3_12 k e w := rfl
abbrev b3_13 : X := (.seq (.seq (.reg [1, 5, 19, 120, 121, 122, 160] (.c (.q 141 [] (.mv (.t 21))) (.c (.q 142 [] (.not (.t 141))) (.c (.q 143 [] (.mv (.t 142))) (.c (.q 144 [(143, false)] (.mv (.t 19))) (.c (.q 145 [(143, false)] (.mv (.t 20))) (.c (.e (some 146) [(143, false)] (.call false 26 [(.t 144), (.t 145)])) (.c (.q 147 [(143, false)] (.not (.t 146))) (.c (.q 148 [] (.pick (.t 143) (.c (.bool true)) (.t 147))) (.c (.q 149 [] (.mv (.t 148))) (.c (.q 150 [(149, false)] (.mv (.t 23))) (.c (.q 151 [(149, false)] (.not (.t 150))) (.c (.q 152 [] (.pick (.t 149) (.c (.bool true)) (.t 151))) (.c (.q 153 [] (.mv (.t 152))) (.c (.q 154 [(153, false)] (.mv (.t 22))) (.c (.q 155 [(153, false)] (.len (.t 154))) (.c (.q 156 [(153, false)] (.mv (.t 19))) (.c (.q 157 [(153, false)] (.lens (.t 156))) (.c (.q 158 [(153, false)] (.bin .sub (.t 157) (.c (.int .i64 1)))) (.c (.q 159 [(153, false)] (.bin .neq (.t 155) (.t 158))) (.c (.q 160 [] (.pick (.t 153) (.c (.bool true)) (.t 159))) .nil))))))))))))))))))))) t3_4) t3_12)
def t3_13 := b3_13
theorem u3_13 : vcK P t3_13 k e w = vcK P b3_13 k e w := rfl
abbrev b3_14 : X := (.seq (.reg [1, 5, 19, 20, 21, 22, 23, 120, 121, 122] (.c (.q 135 [] (.lda 3 (.t 5))) (.c (.q 136 [] (.mv (.t 18))) (.c (.q 137 [] (.bin .add (.t 136) (.c (.int .i64 1)))) (.c (.e (some 138) [] (.call false 25 [(.t 135), (.t 137)])) (.c (.q 134 [] (.mv (.t 138))) (.c (.q 139 [] (.ext 0 (.t 134))) (.c (.q 140 [] (.ext 1 (.t 134))) (.c (.q 22 [] (.mv (.t 139))) (.c (.q 23 [] (.mv (.t 140))) .nil)))))))))) t3_13)
def t3_14 := b3_14
theorem u3_14 : vcK P t3_14 k e w = vcK P b3_14 k e w := rfl
abbrev b3_15 : X := (.seq (.reg [1, 5, 18, 19, 20, 21, 120, 121, 122] (.c (.q 128 [] (.lda 3 (.t 5))) (.c (.q 129 [] (.mv (.t 18))) (.c (.q 130 [] (.bin .add (.t 129) (.c (.int .i64 1)))) (.c (.e (some 131) [] (.call false 24 [(.t 128), (.t 130)])) (.c (.q 127 [] (.mv (.t 131))) (.c (.q 132 [] (.ext 0 (.t 127))) (.c (.q 133 [] (.ext 1 (.t 127))) (.c (.q 20 [] (.mv (.t 132))) (.c (.q 21 [] (.mv (.t 133))) .nil)))))))))) t3_14)
def t3_15 := b3_15
theorem u3_15 : vcK P t3_15 k e w = vcK P b3_15 k e w := rfl
abbrev b3_16 : X := (.reg [1, 5, 120, 121, 122] (.c (.q 183 [] (.bin .add (.t 122) (.c (.int .i64 1)))) (.c (.q 122 [] (.mv (.t 183))) .nil)))
def t3_16 := b3_16
theorem u3_16 : vcK P t3_16 k e w = vcK P b3_16 k e w := rfl
abbrev b3_17 : X := (.seq (.blk 1 (.seq (.reg [1, 5, 18, 19, 120, 121, 122] (.c (.q 124 [] (.mv (.t 122))) (.c (.q 125 [] (.ia 1 (.t 120) (.t 122))) (.c (.q 126 [] (.ld (.t 125))) (.c (.q 18 [] (.mv (.t 124))) (.c (.q 19 [] (.mv (.t 126))) .nil)))))) t3_15)) t3_16)
def t3_17 := b3_17
theorem u3_17 : vcK P t3_17 k e w = vcK P b3_17 k e w := rfl
abbrev b3_18 : X := (.seq (.cond (.t 123) .skip (.exit 0)) t3_17)
def t3_18 := b3_18
theorem u3_18 : vcK P t3_18 k e w = vcK P b3_18 k e w := rfl
abbrev b3_19 : X := (.seq (.reg [1, 5, 120, 121, 122, 123] (.c (.q 123 [] (.bin .lss (.t 122) (.t 121))) .nil)) t3_18)
def t3_19 := b3_19
theorem u3_19 : vcK P t3_19 k e w = vcK P b3_19 k e w := rfl
abbrev b3_20 : X := (.blk 0 (.loop [122] [1, 5, 120, 121] t3_19))
def t3_20 := b3_20
theorem u3_20 : vcK P t3_20 k e w = vcK P b3_20 k e w := rfl
abbrev b3_21 : X := (.seq (.reg [1, 5, 120, 121, 122] (.c (.q 120 [] (.mv (.t 6))) (.c (.q 121 [] (.lens (.t 120))) (.c (.q 122 [] (.mv (.c (.int .i64 0)))) .nil)))) t3_20)
def t3_21 := b3_21
theorem u3_21 : vcK P t3_21 k e w = vcK P b3_21 k e w := rfl
abbrev b3_22 : X := (.seq (.seq (.reg [1, 5, 6, 119] (.c (.q 88 [] (.mv (.t 11))) (.c (.q 89 [] (.not (.t 88))) (.c (.q 90 [] (.mv (.t 89))) (.c (.q 91 [(90, false)] (.mv (.t 13))) (.c (.q 92 [(90, false)] (.not (.t 91))) (.c (.q 93 [] (.pick (.t 90) (.c (.bool true)) (.t 92))) (.c (.q 94 [] (.mv (.t 93))) (.c (.q 95 [(94, false)] (.mv (.t 15))) (.c (.q 96 [(94, false)] (.not (.t 95))) (.c (.q 97 [] (.pick (.t 94) (.c (.bool true)) (.t 96))) (.c (.q 98 [] (.mv (.t 97))) (.c (.q 99 [(98, false)] (.mv (.t 17))) (.c (.q 100 [(98, false)] (.not (.t 99))) (.c (.q 101 [] (.pick (.t 98) (.c (.bool true)) (.t 100))) (.c (.q 102 [] (.mv (.t 101))) (.c (.q 103 [(102, false)] (.mv (.t 10))) (.c (.e (some 104) [(102, false)] (.bsl 9 1 [])) (.c (.q 105 [(102, false)] (.mv (.t 14))) (.c (.e (some 106) [(102, false)] (.app 24 9 1 16 [(S [])] 24 (.t 104) (.t 105))) (.c (.q 107 [(102, false)] (.mv (.t 16))) (.c (.e (some 108) [(102, false)] (.bsl 9 1 [(.t 107)])) (.c (.e (some 109) [(102, false)] (.app 24 9 1 16 [(S [])] 24 (.t 106) (.t 108))) (.c (.e (some 110) [(102, false)] (.call false 23 [(.t 103), (.t 109)])) (.c (.q 111 [(102, false)] (.not (.t 110))) (.c (.q 112 [] (.pick (.t 102) (.c (.bool true)) (.t 111))) (.c (.q 113 [] (.mv (.t 112))) (.c (.q 114 [(113, false)] (.mv (.t 6))) (.c (.q 115 [(113, false)] (.lens (.t 114))) (.c (.q 116 [(113, false)] (.fa 1 (.t 5))) (.c (.q 117 [(113, false)] (.ld (.t 116))) (.c (.q 118 [(113, false)] (.bin .neq (.t 115) (.t 117))) (.c (.q 119 [] (.pick (.t 113) (.c (.bool true)) (.t 118))) .nil))))))))))))))))))))))))))))))))) t3_3) t3_21)
def t3_22 := b3_22
theorem u3_22 : vcK P t3_22 k e w = vcK P b3_22 k e w := rfl
abbrev b3_23 : X := (.seq (.reg [1, 5, 6, 10, 11, 13, 14, 15, 16, 17] (.c (.q 84 [] (.lda 3 (.t 5))) (.c (.e (some 85) [] (.call false 22 [(.t 84)])) (.c (.q 83 [] (.mv (.t 85))) (.c (.q 86 [] (.ext 0 (.t 83))) (.c (.q 87 [] (.ext 1 (.t 83))) (.c (.q 16 [] (.mv (.t 86))) (.c (.q 17 [] (.mv (.t 87))) .nil)))))))) t3_22)
def t3_23 := b3_23
theorem u3_23 : vcK P t3_23 k e w = vcK P b3_23 k e w := rfl
abbrev b3_24 : X := (.seq (.reg [1, 5, 6, 10, 11, 13, 14, 15] (.c (.q 78 [] (.lda 3 (.t 5))) (.c (.q 79 [] (.mv (.t 12))) (.c (.e (some 80) [] (.call false 21 [(.t 78), (.t 79)])) (.c (.q 77 [] (.mv (.t 80))) (.c (.q 81 [] (.ext 0 (.t 77))) (.c (.q 82 [] (.ext 1 (.t 77))) (.c (.q 14 [] (.mv (.t 81))) (.c (.q 15 [] (.mv (.t 82))) .nil))))))))) t3_23)
def t3_24 := b3_24
theorem u3_24 : vcK P t3_24 k e w = vcK P b3_24 k e w := rfl
abbrev b3_25 : X := (.seq (.reg [1, 5, 6, 10, 11, 12, 13] (.c (.q 72 [] (.fa 1 (.t 5))) (.c (.q 73 [] (.ld (.t 72))) (.c (.e (some 74) [] (.call false 20 [(.t 73)])) (.c (.q 71 [] (.mv (.t 74))) (.c (.q 75 [] (.ext 0 (.t 71))) (.c (.q 76 [] (.ext 1 (.t 71))) (.c (.q 12 [] (.mv (.t 75))) (.c (.q 13 [] (.mv (.t 76))) .nil))))))))) t3_24)
def t3_25 := b3_25
theorem u3_25 : vcK P t3_25 k e w = vcK P b3_25 k e w := rfl
abbrev b3_26 : X := (.cond (.t 65) (.seq (.reg [1, 5, 6, 10, 11] (.c (.q 67 [] (.mv (.t 6))) (.c (.e (some 68) [] (.call false 19 [(.t 67)])) (.c (.q 66 [] (.mv (.t 68))) (.c (.q 69 [] (.ext 0 (.t 66))) (.c (.q 70 [] (.ext 1 (.t 66))) (.c (.q 10 [] (.mv (.t 69))) (.c (.q 11 [] (.mv (.t 70))) .nil)))))))) t3_25) .skip)
def t3_26 := b3_26
theorem u3_26 : vcK P t3_26 k e w = vcK P b3_26 k e w := rfl
abbrev b3_27 : X := (.seq (.reg [4] (.c (.q 225 [] (.mv (.t 28))) (.c (.q 226 [] (.mv (.t 30))) (.c (.q 227 [] (.beq false (.t 225) (.t 226))) (.c (.q 228 [] (.mv (.t 227))) (.c (.q 229 [(228, true)] (.mv (.t 27))) (.c (.q 230 [(228, true)] (.mv (.t 29))) (.c (.e (some 231) [(228, true)] (.call false 23 [(.t 229), (.t 230)])) (.c (.q 232 [] (.pick (.t 228) (.t 231) (.c (.bool false)))) (.c (.q 233 [] (.mv (.t 232))) (.c (.q 234 [(233, true)] (.mv (.t 34))) (.c (.q 235 [(233, true)] (.mv (.t 36))) (.c (.q 236 [(233, true)] (.beq false (.t 234) (.t 235))) (.c (.q 237 [] (.pick (.t 233) (.t 236) (.c (.bool false)))) (.c (.q 238 [] (.mv (.t 237))) (.c (.q 239 [(238, true)] (.mv (.t 33))) (.c (.q 240 [(238, true)] (.mv (.t 35))) (.c (.e (some 241) [(238, true)] (.call false 26 [(.t 239), (.t 240)])) (.c (.q 242 [] (.pick (.t 238) (.t 241) (.c (.bool false)))) (.c (.q 243 [] (.mv (.t 242))) (.c (.q 244 [(243, true)] (.mv (.t 38))) (.c (.q 245 [(243, true)] (.mv (.t 40))) (.c (.q 246 [(243, true)] (.beq false (.t 244) (.t 245))) (.c (.q 247 [] (.pick (.t 243) (.t 246) (.c (.bool false)))) (.c (.q 248 [] (.mv (.t 247))) (.c (.q 249 [(248, true)] (.mv (.t 37))) (.c (.q 250 [(248, true)] (.mv (.t 39))) (.c (.q 251 [(248, true)] (.bin .eql (.t 249) (.t 250))) (.c (.q 252 [] (.pick (.t 248) (.t 251) (.c (.bool false)))) (.c (.q 4 [] (.mv (.t 252))) .nil)))))))))))))))))))))))))))))) .ret)
def t3_27 := b3_27
theorem u3_27 : vcK P t3_27 k e w = vcK P b3_27 k e w := rfl
abbrev b3_28 : X := (.seq (.reg [27, 28, 29, 30, 33, 34, 35, 36, 37, 38, 39, 40] (.c (.q 220 [] (.lda 3 (.t 31))) (.c (.q 221 [] (.mv (.t 32))) (.c (.e (some 222) [] (.call false 31 [(.t 220), (.t 221)])) (.c (.q 219 [] (.mv (.t 222))) (.c (.q 223 [] (.ext 0 (.t 219))) (.c (.q 224 [] (.ext 1 (.t 219))) (.c (.q 39 [] (.mv (.t 223))) (.c (.q 40 [] (.mv (.t 224))) .nil))))))))) t3_27)
def t3_28 := b3_28
theorem u3_28 : vcK P t3_28 k e w = vcK P b3_28 k e w := rfl
abbrev b3_29 : X := (.seq (.reg [27, 28, 29, 30, 31, 32, 33, 34, 35, 36, 37, 38] (.c (.q 214 [] (.lda 3 (.t 31))) (.c (.q 215 [] (.mv (.t 32))) (.c (.e (some 216) [] (.call false 25 [(.t 214), (.t 215)])) (.c (.q 213 [] (.mv (.t 216))) (.c (.q 217 [] (.ext 0 (.t 213))) (.c (.q 218 [] (.ext 1 (.t 213))) (.c (.q 37 [] (.mv (.t 217))) (.c (.q 38 [] (.mv (.t 218))) .nil))))))))) t3_28)
def t3_29 := b3_29
theorem u3_29 : vcK P t3_29 k e w = vcK P b3_29 k e w := rfl
abbrev b3_30 : X := (.seq (.reg [27, 28, 29, 30, 31, 32, 33, 34, 35, 36] (.c (.q 208 [] (.lda 3 (.t 31))) (.c (.q 209 [] (.mv (.t 32))) (.c (.e (some 210) [] (.call false 30 [(.t 208), (.t 209)])) (.c (.q 207 [] (.mv (.t 210))) (.c (.q 211 [] (.ext 0 (.t 207))) (.c (.q 212 [] (.ext 1 (.t 207))) (.c (.q 35 [] (.mv (.t 211))) (.c (.q 36 [] (.mv (.t 212))) .nil))))))))) t3_29)
def t3_30 := b3_30
theorem u3_30 : vcK P t3_30 k e w = vcK P b3_30 k e w := rfl
abbrev b3_31 : X := (.seq (.reg [27, 28, 29, 30, 31, 32, 33, 34] (.c (.q 202 [] (.lda 3 (.t 31))) (.c (.q 203 [] (.mv (.t 32))) (.c (.e (some 204) [] (.call false 24 [(.t 202), (.t 203)])) (.c (.q 201 [] (.mv (.t 204))) (.c (.q 205 [] (.ext 0 (.t 201))) (.c (.q 206 [] (.ext 1 (.t 201))) (.c (.q 33 [] (.mv (.t 205))) (.c (.q 34 [] (.mv (.t 206))) .nil))))))))) t3_30)
def t3_31 := b3_31
theorem u3_31 : vcK P t3_31 k e w = vcK P b3_31 k e w := rfl
abbrev b3_32 : X := (.seq (.reg [27, 28, 29, 30, 31, 32] (.c (.q 197 [] (.mv (.t 1))) (.c (.e (some 198) [] (.call false 29 [(.t 197)])) (.c (.q 196 [] (.mv (.t 198))) (.c (.q 199 [] (.ext 0 (.t 196))) (.c (.q 200 [] (.ext 1 (.t 196))) (.c (.e (some 31) [] (.al 26 [(S []), (.int .i64 0), (.slice none 0 0)])) (.c (.e none [] (.st 3 (.t 31) (.t 199))) (.c (.q 32 [] (.mv (.t 200))) .nil))))))))) t3_31)
def t3_32 := b3_32
theorem u3_32 : vcK P t3_32 k e w = vcK P b3_32 k e w := rfl
abbrev b3_33 : X := (.seq (.reg [1, 27, 28, 29, 30] (.c (.q 192 [] (.mv (.t 26))) (.c (.e (some 193) [] (.call false 28 [(.t 192)])) (.c (.q 191 [] (.mv (.t 193))) (.c (.q 194 [] (.ext 0 (.t 191))) (.c (.q 195 [] (.ext 1 (.t 191))) (.c (.q 29 [] (.mv (.t 194))) (.c (.q 30 [] (.mv (.t 195))) .nil)))))))) t3_32)
def t3_33 := b3_33
theorem u3_33 : vcK P t3_33 k e w = vcK P b3_33 k e w := rfl
abbrev b3_34 : X := (.seq (.reg [1, 26, 27, 28] (.c (.q 187 [] (.mv (.t 26))) (.c (.e (some 188) [] (.call false 19 [(.t 187)])) (.c (.q 186 [] (.mv (.t 188))) (.c (.q 189 [] (.ext 0 (.t 186))) (.c (.q 190 [] (.ext 1 (.t 186))) (.c (.q 27 [] (.mv (.t 189))) (.c (.q 28 [] (.mv (.t 190))) .nil)))))))) t3_33)
def t3_34 := b3_34
theorem u3_34 : vcK P t3_34 k e w = vcK P b3_34 k e w := rfl
abbrev b3_35 : X := (.seq (.reg [1, 26] (.c (.q 184 [] (.mv (.t 1))) (.c (.e (some 185) [] (.call false 27 [(.t 184)])) (.c (.q 26 [] (.mv (.t 185))) .nil)))) t3_34)
def t3_35 := b3_35
theorem u3_35 : vcK P t3_35 k e w = vcK P b3_35 k e w := rfl
abbrev b3_36 : X := (.seq (.seq (.reg [1, 5, 6, 65] (.c (.q 65 [] (.mv (.t 7))) .nil)) t3_26) t3_35)
def t3_36 := b3_36
theorem u3_36 : vcK P t3_36 k e w = vcK P b3_36 k e w := rfl
abbrev b3_37 : X := (.seq (.seq (.reg [1, 5, 6, 7, 64] (.c (.q 56 [] (.mv (.t 7))) (.c (.q 57 [] (.mv (.t 9))) (.c (.q 58 [] (.beq true (.t 56) (.t 57))) (.c (.q 59 [] (.mv (.t 58))) (.c (.q 60 [(59, false)] (.mv (.t 6))) (.c (.q 61 [(59, false)] (.mv (.t 8))) (.c (.e (some 62) [(59, false)] (.call false 18 [(.t 60), (.t 61)])) (.c (.q 63 [(59, false)] (.not (.t 62))) (.c (.q 64 [] (.pick (.t 59) (.c (.bool true)) (.t 63))) .nil)))))))))) t3_2) t3_36)
def t3_37 := b3_37
theorem u3_37 : vcK P t3_37 k e w = vcK P b3_37 k e w := rfl
abbrev b3_38 : X := (.seq (.reg [1, 5, 6, 7, 8, 9] (.c (.q 52 [] (.lda 3 (.t 5))) (.c (.e (some 53) [] (.call false 17 [(.t 52)])) (.c (.q 51 [] (.mv (.t 53))) (.c (.q 54 [] (.ext 0 (.t 51))) (.c (.q 55 [] (.ext 1 (.t 51))) (.c (.q 8 [] (.mv (.t 54))) (.c (.q 9 [] (.mv (.t 55))) .nil)))))))) t3_37)
def t3_38 := b3_38
theorem u3_38 : vcK P t3_38 k e w = vcK P b3_38 k e w := rfl
abbrev b3_39 : X := (.seq (.reg [1, 5, 6, 7] (.c (.q 47 [] (.lda 3 (.t 5))) (.c (.e (some 48) [] (.call false 16 [(.t 47)])) (.c (.q 46 [] (.mv (.t 48))) (.c (.q 49 [] (.ext 0 (.t 46))) (.c (.q 50 [] (.ext 1 (.t 46))) (.c (.q 6 [] (.mv (.t 49))) (.c (.q 7 [] (.mv (.t 50))) .nil)))))))) t3_38)
def t3_39 := b3_39
theorem u3_39 : vcK P t3_39 k e w = vcK P b3_39 k e w := rfl
abbrev b3_40 : X := (.seq (.reg [1, 5] (.c (.q 44 [] (.mv (.t 0))) (.c (.e (some 45) [] (.call false 15 [(.t 44)])) (.c (.e (some 5) [] (.al 26 [(S []), (.int .i64 0), (.slice none 0 0)])) (.c (.e none [] (.st 3 (.t 5) (.t 45))) .nil))))) t3_39)
def t3_40 := b3_40
theorem u3_40 : vcK P t3_40 k e w = vcK P b3_40 k e w := rfl
abbrev b3_41 : X := (.seq (.seq (.reg [0, 1, 43] (.c (.q 41 [] (.mv (.t 0))) (.c (.q 42 [] (.mv (.t 1))) (.c (.e (some 43) [] (.call false 14 [(.t 41), (.t 42)])) .nil)))) t3_1) t3_40)
def t3_41 := b3_41
theorem u3_41 : vcK P t3_41 k e w = vcK P b3_41 k e w := rfl
abbrev b3_0 : X := (.seq (.reg [0, 1] (.c (.q 4 [] (.mv (.c (.bool false)))) .nil)) t3_41)
def x_lFnPaths := b3_0
theorem u3_0 : vcK P x_lFnPaths k e w = vcK P b3_0 k e w := rfl
def r_lFnPaths : List XO := [(.mv (.t 4))]
theorem c_lFnPaths : convF Try.prog [147, 148, 152, 160, 162, 163, 170, 178, 206, 208, 210, 224, 233, 235, 236, 251, 264, 265, 268, 270, 287, 322] Try.f3 [([0, 1], []), ([0, 1, 43], []), ([4], []), ([1, 5], []), ([1, 5, 6, 7], []), ([1, 5, 6, 7, 8, 9], []), ([1, 5, 6, 7, 64], []), ([4], []), ([1, 5, 6, 65], []), ([1, 5, 6, 10, 11], []), ([1, 5, 6, 10, 11, 12, 13], []), ([1, 5, 6, 10, 11, 13, 14, 15], []), ([1, 5, 6, 10, 11, 13, 14, 15, 16, 17], []), ([1, 5, 6, 119], []), ([4], []), ([1, 5, 120, 121, 122], []), ([122], [1, 5, 120, 121]), ([1, 5, 120, 121, 122, 123], []), ([1, 5, 18, 19, 120, 121, 122], []), ([1, 5, 18, 19, 20, 21, 120, 121, 122], []), ([1, 5, 19, 20, 21, 22, 23, 120, 121, 122], []), ([1, 5, 19, 120, 121, 122, 160], []), ([4], []), ([1, 5, 19, 24, 120, 121, 122], []), ([24], [1, 5, 19, 120, 121, 122]), ([1, 5, 19, 24, 120, 121, 122, 164], []), ([1, 5, 19, 24, 25, 120, 121, 122], []), ([1, 5, 19, 24, 120, 121, 122, 182], []), ([4], []), ([1, 5, 19, 24, 120, 121, 122], []), ([1, 5, 120, 121, 122], []), ([1, 26], []), ([1, 26, 27, 28], []), ([1, 27, 28, 29, 30], []), ([27, 28, 29, 30, 31, 32], []), ([27, 28, 29, 30, 31, 32, 33, 34], []), ([27, 28, 29, 30, 31, 32, 33, 34, 35, 36], []), ([27, 28, 29, 30, 31, 32, 33, 34, 35, 36, 37, 38], []), ([27, 28, 29, 30, 33, 34, 35, 36, 37, 38, 39, 40], []), ([4], [])] = some (x_lFnPaths, r_lFnPaths) := by kernel_rfl
def us_lFnPaths :=  (aI (aI (aI (aI (aI @u3_0 @u3_1) (aI @u3_2 (aI @u3_3 @u3_4))) (aI (aI @u3_5 @u3_6) (aI @u3_7 (aI @u3_8 @u3_9)))) (aI (aI (aI @u3_10 @u3_11) (aI @u3_12 (aI @u3_13 @u3_14))) (aI (aI @u3_15 (aI @u3_16 @u3_17)) (aI @u3_18 (aI @u3_19 @u3_20))))) (aI (aI (aI (aI @u3_21 @u3_22) (aI @u3_23 (aI @u3_24 @u3_25))) (aI (aI @u3_26 @u3_27) (aI @u3_28 (aI @u3_29 @u3_30)))) (aI (aI (aI @u3_31 @u3_32) (aI @u3_33 (aI @u3_34 @u3_35))) (aI (aI @u3_36 (aI @u3_37 @u3_38)) (aI @u3_39 (aI @u3_40 @u3_41))))))
end

theorem sDrawGoodMethod_okp (v : Value) (code : List UInt8) (hl : code.length ≤ 1048576) (w : World) (h : Sq fU 1 w v code) : Fn 134 [v] w (fun r w' => AnyM w.heap.size r w') := by
  (refine callsV_of mix Try.func134 c_sDrawGoodMethod ?_; simp only [↓vsd, vsn, gW, qd, qv, ev, pick, argE, zipE, ne_eq, eq_self, forall_const, implies_true, if_true, if_false, reduceIte, reduceCtorEq, Nat.reduceEqDiff, Nat.reduceAdd, Nat.reduceLT, ↓us_sDrawGoodMethod, r_sDrawGoodMethod])
  refine m_al ?_
  rintro b0 w0 hb0 hblk0 hx0 hs0
  have h0 := h.ext hx0
  simp only [↓vsd, vsn, gW, qd, qv, ev, pick, argE, zipE, ne_eq, eq_self, forall_const, implies_true, if_true, if_false, reduceIte, reduceCtorEq, Nat.reduceEqDiff, Nat.reduceAdd, Nat.reduceLT, ↓us_sDrawGoodMethod, r_sDrawGoodMethod, h0.facts]
  refine m_al ?_
  rintro b w1 hb hblk hx1 hs1
  have hc := Cur.new h0 hl hb hblk hx1
  simp only [↓vsd, vsn, gW, qd, qv, ev, pick, argE, zipE, ne_eq, eq_self, forall_const, implies_true, if_true, if_false, reduceIte, reduceCtorEq, Nat.reduceEqDiff, Nat.reduceAdd, Nat.reduceLT, ↓us_sDrawGoodMethod, r_sDrawGoodMethod]
  refine m_callw (.inl rfl) (sl1Cur_anyMethod_ok w0 b _ w1 (by omega) hc) ?_
  rintro _ w3 ⟨hc3, hg3, nm, st, x, cs, rfl, ho, hm⟩
  have hb01 := Blk.ext hblk0 hx1
  have hb03 := hb01.same (hg3.block b0 hb01.lt (fun e => by have := Option.some.inj e; omega))
  simp only [↓vsd, vsn, gW, qd, qv, ev, pick, argE, zipE, ne_eq, eq_self, forall_const, implies_true, if_true, if_false, reduceIte, reduceCtorEq, Nat.reduceEqDiff, Nat.reduceAdd, Nat.reduceLT, ↓us_sDrawGoodMethod, r_sDrawGoodMethod]
  refine m_st hb03 rfl (Nat.le_refl 3) (fM_one nm st _ ho.sq.one') ?_
  rintro w4 hblk4 hu4
  have hb4 : Blk w4 b0 (fM nm st x) 26 := hblk4
  simp only [↓vsd, vsn, gW, qd, qv, ev, pick, argE, zipE, ne_eq, eq_self, forall_const, implies_true, if_true, if_false, reduceIte, reduceCtorEq, Nat.reduceEqDiff, Nat.reduceAdd, Nat.reduceLT, ↓us_sDrawGoodMethod, r_sDrawGoodMethod, hb4.facts, fMg]
  exact ⟨hu4.below (hx0.trans hc3.base) (by omega), nm, st, x, cs, rfl, (ho.upd hu4 (ho.away' (by have := hb01.lt; omega))).mono (hx0.trans hx1).size, hm⟩
theorem sDrawPathsOf_ok (v : Value) (code : List UInt8) (hl : code.length ≤ 1048576) (w : World) (h : Sq fU 1 w v code) : Fn 15 [v] w (fun r w' => AnyM w.heap.size r w') := by
  (refine callsV_of mix Try.func15 c_sDrawPathsOf ?_; simp only [↓vsd, vsn, gW, qd, qv, ev, pick, argE, zipE, ne_eq, eq_self, forall_const, implies_true, if_true, if_false, reduceIte, reduceCtorEq, Nat.reduceEqDiff, Nat.reduceAdd, Nat.reduceLT, ↓us_sDrawPathsOf, r_sDrawPathsOf])
  refine m_al ?_
  rintro b0 w0 hb0 hblk0 hx0 hs0
  simp only [↓vsd, vsn, gW, qd, qv, ev, pick, argE, zipE, ne_eq, eq_self, forall_const, implies_true, if_true, if_false, reduceIte, reduceCtorEq, Nat.reduceEqDiff, Nat.reduceAdd, Nat.reduceLT, ↓us_sDrawPathsOf, r_sDrawPathsOf]
  refine m_call (sDrawGoodMethod_okp v code hl _ (h.ext hx0)) ?_
  rintro _ w1 hx1 ⟨nm, st, x, cs, rfl, ho, hm⟩
  simp only [↓vsd, vsn, gW, qd, qv, ev, pick, argE, zipE, ne_eq, eq_self, forall_const, implies_true, if_true, if_false, reduceIte, reduceCtorEq, Nat.reduceEqDiff, Nat.reduceAdd, Nat.reduceLT, ↓us_sDrawPathsOf, r_sDrawPathsOf]
  refine m_st (Blk.ext hblk0 hx1) rfl (Nat.le_refl 3) (fM_one nm st _ ho.sq.one') ?_
  rintro w4 hblk4 hu4
  have hb4 : Blk w4 b0 (fM nm st x) 26 := hblk4
  simp only [↓vsd, vsn, gW, qd, qv, ev, pick, argE, zipE, ne_eq, eq_self, forall_const, implies_true, if_true, if_false, reduceIte, reduceCtorEq, Nat.reduceEqDiff, Nat.reduceAdd, Nat.reduceLT, ↓us_sDrawPathsOf, r_sDrawPathsOf, hb4.facts, fMg]
  exact ⟨hu4.below (hx0.trans hx1) (by omega), nm, st, x, cs, rfl, (ho.upd hu4 (ho.away' (by omega))).mono hx0.size, hm⟩
theorem Sq2.tail {α : Type} {f : α → List Value} {w : World} {o : Value} {ls : List (List α)} (h : Sq2 f w o ls) (k : IntKind) (a : Nat) (ha : a ≤ ls.length) : sslD o (some (.int k a)) none = True ∧ Sq2 f w (sslV 1 o (some (.int k a)) none) (ls.drop a) := by
  obtain ⟨vs, h1, h2, h3⟩ := h
  obtain ⟨a1, a2⟩ := h1.tail k a (by omega)
  refine ⟨a1, vs.drop a, a2, by simp [h2], fun i hi => ?_⟩
  rw [List.length_drop] at hi
  have e1 : (vs.drop a).getD i SV.nil = vs.getD (a + i) SV.nil := by simp only [List.getD_eq_getElem?_getD, List.getElem?_drop]
  have e2 : (ls.drop a).getD i [] = ls.getD (a + i) [] := by simp only [List.getD_eq_getElem?_getD, List.getElem?_drop]
  rw [e1, e2]
  exact h3 _ (by omega)
theorem ud6 {w w' : World} {r : Option Nat} (h : w.drew.grownBy w' r) : w.grownBy w' r := ⟨h.os, h.tape, h.output, h.size, fun g hg hn => h.block g hg hn⟩
def SmallP (ls : List (List Int)) : Prop := ls.length ≤ 8 ∧ ∀ x ∈ ls, x.length ≤ 1000
theorem sDrawRowsOf_ok (v : Value) (code : List UInt8) (hl : code.length ≤ 1048576) (w : World) (h : Sq fU 1 w v code) : Fn 27 [v] w (fun r w' => ∃ ls, Sq2 fI w' r ls ∧ SmallP ls) := by
  (refine callsV_of mix Try.func27 c_sDrawRowsOf ?_; simp only [↓vsd, vsn, gW, qd, qv, ev, pick, argE, zipE, ne_eq, eq_self, forall_const, implies_true, if_true, if_false, reduceIte, reduceCtorEq, Nat.reduceEqDiff, Nat.reduceAdd, Nat.reduceLT, ↓us_sDrawRowsOf, r_sDrawRowsOf])
  simp only [↓vsd, vsn, gW, qd, qv, ev, pick, argE, zipE, ne_eq, eq_self, forall_const, implies_true, if_true, if_false, reduceIte, reduceCtorEq, Nat.reduceEqDiff, Nat.reduceAdd, Nat.reduceLT, ↓us_sDrawRowsOf, r_sDrawRowsOf, h.facts]
  refine m_al ?_
  rintro bc w1 hbc hblk1 hx1 hs1
  have hc := Cur.new h hl hbc hblk1 hx1
  have hlt := hc.lt
  simp only [↓vsd, vsn, gW, qd, qv, ev, pick, argE, zipE, ne_eq, eq_self, forall_const, implies_true, if_true, if_false, reduceIte, reduceCtorEq, Nat.reduceEqDiff, Nat.reduceAdd, Nat.reduceLT, ↓us_sDrawRowsOf, r_sDrawRowsOf]
  refine m_callw (.inl rfl) (sl1Cur_method_ok w bc _ w1 (by omega) hc) ?_
  rintro _ w2 ⟨hc2, hg2, nm, st, x, cs, rfl, ho2, hm, hst6⟩
  have hnm : nm.length ≤ 1048576 := by have := hm.1.2; omega
  have hcl := hm.2.2.1
  have h38 := hm.2.1
  have hc8 : ∀ c ∈ cs, c.length ≤ 1048576 := fun c hc => by have := (hm.2.2.2 c hc).len; omega
  simp only [↓vsd, vsn, gW, qd, qv, ev, pick, argE, zipE, ne_eq, eq_self, forall_const, implies_true, if_true, if_false, reduceIte, reduceCtorEq, Nat.reduceEqDiff, Nat.reduceAdd, Nat.reduceLT, ↓us_sDrawRowsOf, r_sDrawRowsOf]
  refine m_call (sPathsOf_ok nm st x cs hnm hc8 (by omega) _ ho2.sq) ?_
  rintro _ w3 hx3 ⟨y, rfl, hN3⟩
  obtain ⟨n, rfl⟩ : ∃ n : Nat, st = n := ⟨st.toNat, by omega⟩
  rw [pathsV, if_pos hm, Int.toNat_natCast] at hN3
  have hpl := pathsL_len n cs n
  have hel : ∀ b < n, ((pathsL n cs n).getD b []).length = cs.length + 1 := fun b hb => by rw [pathsL_get n cs n b hb, pathP_len, rowsU_len]
  have hsm : SmallP (pathsL n cs n) := ⟨by omega, fun x hx => by
    obtain ⟨i, hi, rfl⟩ := List.getElem_of_mem hx
    have := hel i (by omega)
    rw [List.getD_eq_getElem?_getD, List.getElem?_eq_getElem hi, Option.getD_some] at this
    omega⟩
  generalize pathsL n cs n = P at *
  have hc3 := hc2.ext hx3
  have hlt2 := hc2.lt
  simp only [↓vsd, vsn, gW, qd, qv, ev, pick, argE, zipE, ne_eq, eq_self, forall_const, implies_true, if_true, if_false, reduceIte, reduceCtorEq, Nat.reduceEqDiff, Nat.reduceAdd, Nat.reduceLT, ↓us_sDrawRowsOf, r_sDrawRowsOf, hN3.sq.facts]
  have hn0 : (0 : Int) < P.length := by omega
  simp only [↓vsd, vsn, gW, qd, qv, ev, pick, argE, zipE, ne_eq, eq_self, forall_const, implies_true, if_true, if_false, reduceIte, reduceCtorEq, Nat.reduceEqDiff, Nat.reduceAdd, Nat.reduceLT, ↓us_sDrawRowsOf, r_sDrawRowsOf, hn0]
  refine ⟨?_, fun hneg => absurd hneg (by omega)⟩
  refine m_callw (.inl rfl) (sl1Cur_pick_ok w bc _ (P.length : Int) (by omega) w3 (by omega) hc3) ?_
  rintro _ w4 ⟨hc4, hg4, k, rfl, hk⟩
  have hN4 := hN3.off hg4 (fun c hc => by have := Option.some.inj hc; omega)
  have hkl : k < P.length := by omega
  simp only [↓vsd, vsn, gW, qd, qv, ev, pick, argE, zipE, ne_eq, eq_self, forall_const, implies_true, if_true, if_false, reduceIte, reduceCtorEq, Nat.reduceEqDiff, Nat.reduceAdd, Nat.reduceLT, ↓us_sDrawRowsOf, r_sDrawRowsOf]
  refine m_callw (.inl rfl) (sl1Cur_pick_ok w bc _ 10 (by omega) w4 (by omega) hc4) ?_
  rintro _ w5 ⟨hc5, hg5, p, rfl, hp⟩
  have hN5 := hN4.off hg5 (fun c hc => by have := Option.some.inj hc; omega)
  have hNf := hN5.sq.facts
  have hrows := hN5.sq
  have hF5 : Ext w w5 := hc5.base
  obtain ⟨us, u1, u2, u3, u4⟩ := hN5
  have hku : k < us.length := by omega
  have a5 := u1.sq.at1 SV.nil hku
  obtain ⟨i1, i2, i3⟩ := u4 k hkl
  have hlt3 := hc3.lt
  have hs23 : w2.heap.size ≤ w3.heap.size := hx3.size
  have hP2 := hel k (by omega)
  have hsk : (P.getD k []).length ≤ 1000 := hsm.2 _ (getD_mem [] hkl)
  have hinne : ∀ i < P.length, i ≠ k → ∀ c, (us.getD k SV.nil).v.ownBlock = some c → (us.getD i SV.nil).v.ownBlock ≠ some c := fun i hi hik c hc e => by
    rcases Nat.lt_or_ge i k with h1 | h1
    · exact i3 i h1 c hc e
    · exact (u4 i hi).2.2 k (by omega) c e hc
  have hfin : ∀ w6 (hg6 : w5.grownBy w6 (some bc)) (hc6 : Cur w bc 1000 w6), ∀ (q : Int) (w7 : World), Own fI 1 3 w2.heap.size w7 (us.getD k SV.nil).v ((P.getD k []).set 0 q) → w6.grownBy w7 (us.getD k SV.nil).v.ownBlock → Ext w w7 ∧ ∃ ls, Sq2 fI w7 y ls ∧ SmallP ls := fun w6 hg6 hc6 q w7 ho7 hg7 => by
    have hb6 : ∀ c, some bc = some c → c < w2.heap.size := fun c hc => by have := Option.some.inj hc; omega
    refine ⟨ext_grow hc6.base hg7 (fun c hc => by have := (i1.bound c hc).1; have := hc2.base.size; omega), P.set k ((P.getD k []).set 0 q), ⟨us, ((u1.keep hg6 hb6).off hg7 (fun c hc e => (i2 c hc).2 e)).sq, by rw [List.length_set]; exact u3, fun i hi => ?_⟩, by rw [List.length_set]; exact hsm.1, fun x hx => ?_⟩
    · rw [List.length_set] at hi
      rw [getD_set]
      by_cases hik : k = i
      · subst hik
        rw [if_pos ⟨rfl, hi⟩]
        exact ho7.sq
      · rw [if_neg (fun hh => hik hh.1)]
        exact (((u4 i hi).1.keep hg6 hb6).off hg7 (fun c hc e => hinne i hi (fun e => hik e.symm) c hc e)).sq
    · rcases List.mem_or_eq_of_mem_set hx with h' | rfl
      · exact hsm.2 x h'
      · rw [List.length_set]; exact hsk
  by_cases hp0 : p = 0
  · have q0 : (p : Int) = 0 := by omega
    simp only [↓vsd, vsn, gW, qd, qv, ev, pick, argE, zipE, ne_eq, eq_self, forall_const, implies_true, if_true, if_false, reduceIte, reduceCtorEq, Nat.reduceEqDiff, Nat.reduceAdd, Nat.reduceLT, ↓us_sDrawRowsOf, r_sDrawRowsOf, hNf, a5, fSV_get, q0]
    refine ⟨⟨by omega, by omega⟩, ?_, ?_⟩
    all_goals
      refine m_callw (by first | exact .inr rfl | exact .inl rfl) (sl1Cur_pick_ok w bc _ 9 (by omega) w5.drew (by omega) (hc5.ext (dr (Ext.refl _)))) ?_
      rintro _ w6 ⟨hc6, hg6, q, rfl, hq⟩
      have hg6 := ud6 hg6
      have hb6 : ∀ c, some bc = some c → c < w2.heap.size := fun c hc => by have := Option.some.inj hc; omega
      have ho6 := i1.keep hg6 hb6
      have a6 := (u1.keep hg6 hb6).sq.at1 SV.nil hku
      have hf6 := ho6.sq.facts
      have h0l : (0 : Int) < (P.getD k []).length := by omega
      simp only [↓vsd, vsn, gW, qd, qv, ev, pick, argE, zipE, ne_eq, eq_self, forall_const, implies_true, if_true, if_false, reduceIte, reduceCtorEq, Nat.reduceEqDiff, Nat.reduceAdd, Nat.reduceLT, ↓us_sDrawRowsOf, r_sDrawRowsOf, a6, fSV_get, hf6, h0l]
      refine ⟨by omega, m_set1 (x := .int .i64 (q : Int)) 0 (q : Int) ho6 rfl (by omega) rfl fI_one ?_⟩
      rintro w7 ho7 hg7 hs7
      simp only [↓vsd, vsn, gW, qd, qv, ev, pick, argE, zipE, ne_eq, eq_self, forall_const, implies_true, if_true, if_false, reduceIte, reduceCtorEq, Nat.reduceEqDiff, Nat.reduceAdd, Nat.reduceLT, ↓us_sDrawRowsOf, r_sDrawRowsOf]
      exact hfin w6 hg6 (hc6.mono (by omega)) _ w7 ho7 hg7
  by_cases hp1 : p = 1
  · have q0 : ¬ (p : Int) = 0 := by omega
    have q1 : (p : Int) = 1 := by omega
    obtain ⟨t1, t2⟩ := hrows.tail .i64 1 (by omega)
    have t1 : sslD y (some (.int .i64 1)) none = True := t1
    simp only [↓vsd, vsn, gW, qd, qv, ev, pick, argE, zipE, ne_eq, eq_self, forall_const, implies_true, if_true, if_false, reduceIte, reduceCtorEq, Nat.reduceEqDiff, Nat.reduceAdd, Nat.reduceLT, ↓us_sDrawRowsOf, r_sDrawRowsOf, hNf, q1, t1]
    exact ⟨fun hh => absurd hh (by decide), fun _ => ⟨hF5, _, t2, by rw [List.length_drop]; have := hsm.1; omega, fun x hx => hsm.2 x (List.mem_of_mem_drop hx)⟩⟩
  by_cases hp2 : p = 2
  · have q2 : (p : Int) = 2 := by omega
    obtain ⟨t1, t2⟩ := i1.sq.tail .i64 1 (by omega)
    have t1 : sslD (us.getD k SV.nil).v (some (.int .i64 1)) none = True := t1
    simp only [↓vsd, vsn, gW, qd, qv, ev, pick, argE, zipE, ne_eq, eq_self, forall_const, implies_true, if_true, if_false, reduceIte, reduceCtorEq, Nat.reduceEqDiff, Nat.reduceAdd, Nat.reduceLT, ↓us_sDrawRowsOf, r_sDrawRowsOf, hNf, a5, fSV_get, q2, t1]
    refine ⟨fun hh => absurd hh (by decide), fun _ => ⟨fun hh => absurd hh (by decide), fun _ => ⟨⟨by omega, by omega⟩, ⟨by omega, by omega⟩, ?_⟩⟩⟩
    obtain ⟨s2, hs2⟩ := t2.sv
    have hs2' : sslV 1 (us.getD k SV.nil).v (some (.int .i64 1)) none = s2.v := hs2
    rw [hs2']
    have t2 : Sq fI 1 w5 s2.v ((P.getD k []).drop 1) := by rw [← hs2]; exact t2
    refine m_set1 (x := s2.v) k s2 u1 rfl hku rfl fSV_one ?_
    rintro w6 ho6 hg6 hs6
    have hy2 : ∀ c, y.ownBlock = some c → w2.heap.size ≤ c := fun c hc => (u1.bound c hc).1
    simp only [↓vsd, vsn, gW, qd, qv, ev, pick, argE, zipE, ne_eq, eq_self, forall_const, implies_true, if_true, if_false, reduceIte, reduceCtorEq, Nat.reduceEqDiff, Nat.reduceAdd, Nat.reduceLT, ↓us_sDrawRowsOf, r_sDrawRowsOf]
    refine ⟨ext_grow hF5 hg6 (fun c hc => by have := hy2 c hc; have := hc2.base.size; omega), P.set k ((P.getD k []).drop 1), ⟨_, ho6.sq, by rw [List.length_set, List.length_set]; exact u3, fun i hi => ?_⟩, by rw [List.length_set]; exact hsm.1, fun x hx => ?_⟩
    · rw [List.length_set] at hi
      rw [getD_set, getD_set]
      by_cases hik : k = i
      · subst hik
        rw [if_pos ⟨rfl, hku⟩, if_pos ⟨rfl, hi⟩]
        have := i1.off hg6 (fun c hc e => (i2 c e).2 hc)
        obtain ⟨t3, t4⟩ := this.sq.tail .i64 1 (by omega)
        rw [← hs2]
        exact t4
      · rw [if_neg (fun hh => hik hh.1), if_neg (fun hh => hik hh.1)]
        exact ((u4 i hi).1.off hg6 (fun c hc e => ((u4 i hi).2.1 c e).2 hc)).sq
    · rcases List.mem_or_eq_of_mem_set hx with h' | rfl
      · exact hsm.2 x h'
      · rw [List.length_drop]; omega
  have q0 : ¬ (p : Int) = 0 := by omega
  have q1 : ¬ (p : Int) = 1 := by omega
  have q2 : ¬ (p : Int) = 2 := by omega
  simp only [↓vsd, vsn, gW, qd, qv, ev, pick, argE, zipE, ne_eq, eq_self, forall_const, implies_true, if_true, if_false, reduceIte, reduceCtorEq, Nat.reduceEqDiff, Nat.reduceAdd, Nat.reduceLT, ↓us_sDrawRowsOf, r_sDrawRowsOf, q0, q1, q2]
  exact ⟨hF5, _, hrows, hsm⟩
theorem Clone_okp (v : Value) (l : List (List UInt8)) (hl : l.length ≤ 1000000000) (w : World) (h : Sq fS 1 w v l) : Fn 144 [v] w (fun r w' => Own fS 1 9 w.heap.size w' r l) := by
  (refine callsV_of mix Try.func144 c_xslices_Clone_string_string ?_; simp only [↓vsd, vsn, gW, qd, qv, ev, pick, argE, zipE, ne_eq, eq_self, forall_const, implies_true, if_true, if_false, reduceIte, reduceCtorEq, Nat.reduceEqDiff, Nat.reduceAdd, Nat.reduceLT, ↓us_xslices_Clone_string_string, r_xslices_Clone_string_string])
  have hor := h.2.2
  rcases hor with ⟨rfl, h0⟩ | ⟨ad, c, rfl, _, _⟩
  · obtain rfl : l = [] := List.length_eq_zero_iff.1 h0
    simp only [↓vsd, vsn, gW, qd, qv, ev, pick, argE, zipE, ne_eq, eq_self, forall_const, implies_true, if_true, if_false, reduceIte, reduceCtorEq, Nat.reduceEqDiff, Nat.reduceAdd, Nat.reduceLT, ↓us_xslices_Clone_string_string, r_xslices_Clone_string_string]
    exact ⟨fun _ => ⟨Ext.refl _, Own.nil fS_len⟩, fun h => absurd rfl h⟩
  · simp only [↓vsd, vsn, gW, qd, qv, ev, pick, argE, zipE, ne_eq, eq_self, forall_const, implies_true, if_true, if_false, reduceIte, reduceCtorEq, Nat.reduceEqDiff, Nat.reduceAdd, Nat.reduceLT, ↓us_xslices_Clone_string_string, r_xslices_Clone_string_string]
    refine ⟨fun h => (by cases h), fun _ => m_bsl (by simp) ?_⟩
    rintro b w1 hb hblk hx1 hs1
    simp only [↓vsd, vsn, gW, qd, qv, ev, pick, argE, zipE, ne_eq, eq_self, forall_const, implies_true, if_true, if_false, reduceIte, reduceCtorEq, Nat.reduceEqDiff, Nat.reduceAdd, Nat.reduceLT, ↓us_xslices_Clone_string_string, r_xslices_Clone_string_string]
    have ho : Own fS 1 9 w.heap.size w1 (.slice (some ⟨b, 0, none⟩) 0 0) ([] : List (List UInt8)) := (Own.empty fS_len hblk (by omega)).to (by simp)
    refine m_app ho (h.ext hx1) fS_one (by decide) (by simp; omega) (by decide) hx1.size ?_
    rintro x w2 ho2 hg2
    have hx2 := ho.grown hx1 (Nat.le_refl _) hg2
    simp only [↓vsd, vsn, gW, qd, qv, ev, pick, argE, zipE, ne_eq, eq_self, forall_const, implies_true, if_true, if_false, reduceIte, reduceCtorEq, Nat.reduceEqDiff, Nat.reduceAdd, Nat.reduceLT, ↓us_xslices_Clone_string_string, r_xslices_Clone_string_string]
    exact ⟨hx2, ho2.to (by simp)⟩
theorem iLeadRows_okp (nm : List UInt8) (st : Int) (v : Value) (cs : List (List UInt8)) (l : List UInt8) (hnm : nm.length ≤ 1048576) (hs : ∀ c ∈ cs, c.length ≤ 1048576) (hl : cs.length ≤ 1000000000) (w : World) (h : Sq fS 1 w v cs) : Fn 21 [mV nm st v, S l] w (fun r w' => ∃ x, r = .tuple ⟨[x, .bool (decide (LeadOk nm st cs l))]⟩ ∧ Own fS 1 9 w.heap.size w' x (leadV nm st cs l)) := by
  (refine callsV_of mix Try.func21 c_iLeadRows ?_; simp only [↓vsd, vsn, gW, qd, qv, ev, pick, argE, zipE, ne_eq, eq_self, forall_const, implies_true, if_true, if_false, reduceIte, reduceCtorEq, Nat.reduceEqDiff, Nat.reduceAdd, Nat.reduceLT, ↓us_iLeadRows, r_iLeadRows])
  refine m_al ?_
  rintro b1 w1 hb1 hblk1 hx1 hs1
  have h1 : Blk w1 b1 (fM nm st v) 26 := hblk1
  have hno : ¬ LeadOk nm st cs l → ∀ w', ∃ x, Value.tuple ⟨[.slice none 0 0, .bool false]⟩ = .tuple ⟨[x, .bool (decide (LeadOk nm st cs l))]⟩ ∧ Own fS 1 9 w.heap.size w' x (leadV nm st cs l) := fun hn w' =>
    ⟨_, by rw [decide_eq_false hn], by rw [leadV, if_neg hn]; exact Own.nil fS_len⟩
  simp only [↓vsd, vsn, gW, qd, qv, ev, pick, argE, zipE, ne_eq, eq_self, forall_const, implies_true, if_true, if_false, reduceIte, reduceCtorEq, Nat.reduceEqDiff, Nat.reduceAdd, Nat.reduceLT, ↓us_iLeadRows, r_iLeadRows, h1.facts, fMg]
  refine m_call (iGoodMethod_ok nm st v cs hnm hs hl _ (by first | exact h.ext hx1 | exact h.ext (dr hx1))) ?_
  rintro _ w2 hx2 rfl
  have hx2 : Ext w1 w2 := by first | exact hx2 | exact ud hx2 | exact ud (ud hx2)
  have hx12 := hx1.trans hx2
  have h2 := h1.ext hx2
  by_cases hm : IsMethod nm st cs
  · have hD := decide_eq_true hm
    simp only [↓vsd, vsn, gW, qd, qv, ev, pick, argE, zipE, ne_eq, eq_self, forall_const, implies_true, if_true, if_false, reduceIte, reduceCtorEq, Nat.reduceEqDiff, Nat.reduceAdd, Nat.reduceLT, ↓us_iLeadRows, r_iLeadRows, hD, h1.facts, h2.facts, fMg]
    refine m_call (iisRowOf_ok st l _) ?_
    rintro _ w3 hx3 rfl
    have hx3 : Ext w2 w3 := by first | exact hx3 | exact ud hx3 | exact ud (ud hx3)
    have hx13 := hx12.trans hx3
    have h3 := h2.ext hx3
    by_cases hr : (l.length : Int) = st ∧ IsRow l
    · obtain ⟨n, rfl⟩ : ∃ n : Nat, st = n := ⟨st.toNat, by have := hm.2.1; omega⟩
      have hyes : LeadOk nm n cs l := ⟨hm, hr.2, hr.1⟩
      have hd1 := decide_eq_true hr.1
      have hd2 := decide_eq_true hr.2
      simp only [↓vsd, vsn, gW, qd, qv, ev, pick, argE, zipE, ne_eq, eq_self, forall_const, implies_true, if_true, if_false, reduceIte, reduceCtorEq, Nat.reduceEqDiff, Nat.reduceAdd, Nat.reduceLT, ↓us_iLeadRows, r_iLeadRows, hd1, hd2, h2.facts, h3.facts, fMg]
      refine m_call (ileadRows_ok nm n v cs l hm hr.2 _ (by first | exact h.ext hx13 | exact h.ext (dr hx13))) ?_
      rintro x w4 hx4 ho4
      have hx4 : Ext w3 w4 := by first | exact hx4 | exact ud hx4 | exact ud (ud hx4)
      simp only [↓vsd, vsn, gW, qd, qv, ev, pick, argE, zipE, ne_eq, eq_self, forall_const, implies_true, if_true, if_false, reduceIte, reduceCtorEq, Nat.reduceEqDiff, Nat.reduceAdd, Nat.reduceLT, ↓us_iLeadRows, r_iLeadRows]
      refine m_call (Clone_okp x _ (by rw [rowsU_len]; omega) _ ho4.sq) ?_
      rintro y w5 hx5 ho5
      have hx5 : Ext w4 w5 := by first | exact hx5 | exact ud hx5 | exact ud (ud hx5)
      have hx14 := hx13.trans hx4
      simp only [↓vsd, vsn, gW, qd, qv, ev, pick, argE, zipE, ne_eq, eq_self, forall_const, implies_true, if_true, if_false, reduceIte, reduceCtorEq, Nat.reduceEqDiff, Nat.reduceAdd, Nat.reduceLT, ↓us_iLeadRows, r_iLeadRows]
      exact ⟨hx14.trans hx5, y, by rw [decide_eq_true hyes], by rw [leadV, if_pos hyes]; exact ho5.mono hx14.size⟩
    · have hn2 : ¬ LeadOk nm st cs l := fun hh => hr ⟨hh.2.2, hh.2.1⟩
      have hd : (decide ((l.length : Int) = st) && decide (IsRow l)) = false := by
        by_cases e : (l.length : Int) = st
        · rw [decide_eq_true e, decide_eq_false (fun hh => hr ⟨e, hh⟩)]; rfl
        · rw [decide_eq_false e]; rfl
      rw [hd]
      simp only [↓vsd, vsn, gW, qd, qv, ev, pick, argE, zipE, ne_eq, eq_self, forall_const, implies_true, if_true, if_false, reduceIte, reduceCtorEq, Nat.reduceEqDiff, Nat.reduceAdd, Nat.reduceLT, ↓us_iLeadRows, r_iLeadRows]
      exact ⟨hx13, hno hn2 _⟩
  · have hn2 : ¬ LeadOk nm st cs l := fun hh => hm hh.1
    have hD := decide_eq_false hm
    simp only [↓vsd, vsn, gW, qd, qv, ev, pick, argE, zipE, ne_eq, eq_self, forall_const, implies_true, if_true, if_false, reduceIte, reduceCtorEq, Nat.reduceEqDiff, Nat.reduceAdd, Nat.reduceLT, ↓us_iLeadRows, r_iLeadRows, hD]
    exact ⟨hx12, hno hn2 _⟩
theorem lsameLists_okp (v1 v2 : Value) (l1 l2 : List (List Int)) (w : World) (h1 : Sq2 fI w v1 l1) (h2 : Sq2 fI w v2 l2) (hl : l1.length ≤ 1000000) (hs : ∀ x ∈ l1, x.length ≤ 1000000) : Fn 18 [v1, v2] w (fun v _ => v = .bool (decide (l1 = l2))) := by
  obtain ⟨u1, q1, g1, i1⟩ := h1
  obtain ⟨u2, q2, g2, i2⟩ := h2
  (refine callsV_of mix Try.func18 c_lsameLists ?_; simp only [↓vsd, vsn, gW, qd, qv, ev, pick, argE, zipE, ne_eq, eq_self, forall_const, implies_true, if_true, if_false, reduceIte, reduceCtorEq, Nat.reduceEqDiff, Nat.reduceAdd, Nat.reduceLT, ↓us_lsameLists, r_lsameLists])
  simp only [↓vsd, vsn, gW, qd, qv, ev, pick, argE, zipE, ne_eq, eq_self, forall_const, implies_true, if_true, if_false, reduceIte, reduceCtorEq, Nat.reduceEqDiff, Nat.reduceAdd, Nat.reduceLT, ↓us_lsameLists, r_lsameLists, q1.facts, q2.facts, g1, g2]
  refine ⟨fun hne => ⟨Ext.refl _, by have : ¬ l1 = l2 := fun e => hne (by rw [e]); simp [this]⟩, fun he => ?_⟩
  have he : l1.length = l2.length := by omega
  refine m_upto l1.length (fun k vs w' => vs = [.int .i64 k] ∧ l1.take k = l2.take k ∧ Ext w w') ⟨rfl, by simp, Ext.refl _⟩ ?_
  rintro k vs w1 hk ⟨rfl, hall, hx⟩
  have hq1 := q1.ext hx
  have hq2 := q2.ext hx
  by_cases hlt : k < l1.length
  · have hltI : (k : Int) < l1.length := by omega
    have hltJ : ¬ (l1.length : Int) ≤ k := by omega
    have hlt2 : k < l2.length := by omega
    have hltK : (k : Int) < l2.length := by omega
    have hk1 : k < u1.length := by omega
    have hk2 : k < u2.length := by omega
    simp only [↓vsd, vsn, gW, qd, qv, ev, pick, argE, zipE, ne_eq, eq_self, forall_const, implies_true, if_true, if_false, reduceIte, reduceCtorEq, Nat.reduceEqDiff, Nat.reduceAdd, Nat.reduceLT, ↓us_lsameLists, r_lsameLists, hq1.facts, hq2.facts, g1, g2, hltI, hltJ, hltK, hq1.at1 SV.nil hk1, hq2.at1 SV.nil hk2, fSV_get]
    refine ⟨by omega, by omega, m_call (lsameInts_ok _ _ (l1.getD k []) (l2.getD k []) _ ((i1 k hlt).ext (by first | exact hx | exact dr hx)) ((i2 k hlt2).ext (by first | exact hx | exact dr hx)) (by have := hs _ (getD_mem [] hlt); omega)) ?_⟩
    rintro _ w2 hx2 rfl
    have hx12 : Ext w w2 := by first | exact hx.trans hx2 | exact hx.trans (ud hx2)
    simp only [↓vsd, vsn, gW, qd, qv, ev, pick, argE, zipE, ne_eq, eq_self, forall_const, implies_true, if_true, if_false, reduceIte, reduceCtorEq, Nat.reduceEqDiff, Nat.reduceAdd, Nat.reduceLT, ↓us_lsameLists, r_lsameLists]
    exact ⟨fun hne => ⟨hx12, by simp [ne_at k hne]⟩, fun he => ⟨inR_i64 (by omega), UpTo.next hlt ⟨rfl, eq_take hall hlt hlt2 he, hx12⟩⟩⟩
  · obtain rfl : k = l1.length := by omega
    have hltI : ¬ (l1.length : Int) < l1.length := by omega
    simp only [↓vsd, vsn, gW, qd, qv, ev, pick, argE, zipE, ne_eq, eq_self, forall_const, implies_true, if_true, if_false, reduceIte, reduceCtorEq, Nat.reduceEqDiff, Nat.reduceAdd, Nat.reduceLT, ↓us_lsameLists, r_lsameLists, hq1.facts, g1, hltI]
    exact ⟨hx, by simp [eq_len hall he]⟩
set_option maxHeartbeats 4000000 in
theorem lFnPaths_ok (v u : Value) (code more : List UInt8) (hcl : code.length ≤ 9223372036854775807) (hml : more.length ≤ 9223372036854775807) (w : World) (h : Sq fU 1 w v code) (h' : Sq fU 1 w u more) : Fn 3 [v, u] w (fun r _ => r = .bool true) := by
  (refine callsV_of mix Try.func3 c_lFnPaths ?_; simp only [↓vsd, vsn, gW, qd, qv, ev, pick, argE, zipE, ne_eq, eq_self, forall_const, implies_true, if_true, if_false, reduceIte, reduceCtorEq, Nat.reduceEqDiff, Nat.reduceAdd, Nat.reduceLT, ↓us_lFnPaths, r_lFnPaths])
  refine m_call (lbig_ok v u code more hcl hml _ h h') ?_
  rintro _ w0 hx0 rfl
  simp only [↓vsd, vsn, gW, qd, qv, ev, pick, argE, zipE, ne_eq, eq_self, forall_const, implies_true, if_true, if_false, reduceIte, reduceCtorEq, Nat.reduceEqDiff, Nat.reduceAdd, Nat.reduceLT, ↓us_lFnPaths, r_lFnPaths]
  refine ⟨fun _ => hx0, fun hsm => ?_⟩
  have hlen : code.length ≤ 1048576 ∧ more.length ≤ 1048576 := by omega
  refine m_call (sDrawPathsOf_ok v code hlen.1 _ (h.ext hx0)) ?_
  rintro _ w1 hx1 ⟨nm, st, x, cs, rfl, ho1, hnm, hst, hcs, hc8⟩
  simp only [↓vsd, vsn, gW, qd, qv, ev, pick, argE, zipE, ne_eq, eq_self, forall_const, implies_true, if_true, if_false, reduceIte, reduceCtorEq, Nat.reduceEqDiff, Nat.reduceAdd, Nat.reduceLT, ↓us_lFnPaths, r_lFnPaths]
  refine m_al ?_
  rintro bm w2 hbm hblk2 hx2 hs2
  simp only [↓vsd, vsn, gW, qd, qv, ev, pick, argE, zipE, ne_eq, eq_self, forall_const, implies_true, if_true, if_false, reduceIte, reduceCtorEq, Nat.reduceEqDiff, Nat.reduceAdd, Nat.reduceLT, ↓us_lFnPaths, r_lFnPaths]
  refine m_st hblk2 rfl (Nat.le_refl 3) (fM_one nm st x ho1.sq.one') ?_
  rintro w3 hblk3 hu3
  have hmL : Blk w3 bm (fM nm st x) 26 := hblk3
  have hoL := (ho1.ext hx2).upd hu3 (ho1.away (by omega))
  have hxL : Ext w w3 := hu3.below ((hx0.trans hx1).trans hx2) (by have := hx0.size; have := hx1.size; omega)
  have hnm' : nm.length ≤ 1048576 := by omega
  have hc8' : ∀ c ∈ cs, c.length ≤ 1048576 := fun c hc => by have := hc8 c hc; omega
  have hcs' : cs.length ≤ 1000000000 := by omega
  clear hblk2 hblk3 hx1 hx2 hu3 ho1 hbm hs2
  simp only [↓vsd, vsn, gW, qd, qv, ev, pick, argE, zipE, ne_eq, eq_self, forall_const, implies_true, if_true, if_false, reduceIte, reduceCtorEq, Nat.reduceEqDiff, Nat.reduceAdd, Nat.reduceLT, ↓us_lFnPaths, r_lFnPaths, hmL.facts, fMg]
  refine m_call (iPathsOf_ok nm st x cs hnm' hc8' hcs' _ hoL.sq) ?_
  rintro _ w4 hxn ⟨y1, rfl, hy1⟩
  have hy1 := hy1.sq
  have hmL := hmL.ext hxn
  have hoL := hoL.ext hxn
  have hxL := hxL.trans hxn
  simp only [↓vsd, vsn, gW, qd, qv, ev, pick, argE, zipE, ne_eq, eq_self, forall_const, implies_true, if_true, if_false, reduceIte, reduceCtorEq, Nat.reduceEqDiff, Nat.reduceAdd, Nat.reduceLT, ↓us_lFnPaths, r_lFnPaths, hmL.facts, fMg]
  refine m_call (sPathsOf_ok nm st x cs hnm' hc8' hcs' _ hoL.sq) ?_
  rintro _ w5 hxn ⟨y2, rfl, hy2⟩
  have hy1 := hy1.ext hxn
  have hy2 := hy2.sq
  have hmL := hmL.ext hxn
  have hoL := hoL.ext hxn
  have hxL := hxL.trans hxn
  have hpv : (pathsV nm st cs).length ≤ 1000000 ∧ ∀ x ∈ pathsV nm st cs, x.length ≤ 1000000 := by
    unfold pathsV
    split
    · rename_i hm
      have := hm.2.1
      refine ⟨by rw [pathsL_len]; omega, fun x hx => ?_⟩
      obtain ⟨i, hi, rfl⟩ := List.mem_map.1 hx
      rw [pathP_len, rowsU_len]; omega
    · simp
  simp only [↓vsd, vsn, gW, qd, qv, ev, pick, argE, zipE, ne_eq, eq_self, forall_const, implies_true, if_true, if_false, reduceIte, reduceCtorEq, Nat.reduceEqDiff, Nat.reduceAdd, Nat.reduceLT, ↓us_lFnPaths, r_lFnPaths]
  refine m_call (lsameLists_okp y1 y2 _ _ _ hy1 hy2 hpv.1 hpv.2) ?_
  rintro _ w6 hxn rfl
  have hxn : Ext w5 w6 := by first | exact hxn | exact ud hxn | exact ud (ud hxn)
  have hy1 := hy1.ext hxn
  have hmL := hmL.ext hxn
  have hoL := hoL.ext hxn
  have hxL := hxL.trans hxn
  by_cases hm : IsMethod nm st cs
  · have hPd := decide_eq_true hm
    obtain ⟨n, rfl⟩ : ∃ n : Nat, st = n := ⟨st.toNat, by omega⟩
    have h38 : 3 ≤ n ∧ n ≤ 8 := by have := hm.2.1; omega
    have hcl1 := hm.2.2.1
    rw [pathsV, if_pos hm, Int.toNat_natCast] at hy1 hpv
    obtain ⟨hpo, hpr⟩ := pths_paths hm
    simp only [↓vsd, vsn, gW, qd, qv, ev, pick, argE, zipE, ne_eq, eq_self, forall_const, implies_true, if_true, if_false, reduceIte, reduceCtorEq, Nat.reduceEqDiff, Nat.reduceAdd, Nat.reduceLT, ↓us_lFnPaths, r_lFnPaths, hPd]
    refine m_call (iRowsOf_ok y1 _ hpv.1 hpv.2 _ hy1) ?_
    rintro _ w7 hxn ⟨z, rfl, hz⟩
    have hpoD := decide_eq_true hpo
    have hz := hz.to hpr
    have hy1 := hy1.ext hxn
    have hmL := hmL.ext hxn
    have hoL := hoL.ext hxn
    have hxL := hxL.trans hxn
    simp only [↓vsd, vsn, gW, qd, qv, ev, pick, argE, zipE, ne_eq, eq_self, forall_const, implies_true, if_true, if_false, reduceIte, reduceCtorEq, Nat.reduceEqDiff, Nat.reduceAdd, Nat.reduceLT, ↓us_lFnPaths, r_lFnPaths, hpoD, hmL.facts, fMg]
    refine m_call (iRoundsOf_ok n _) ?_
    rintro _ w8 hxn rfl
    have hz := hz.ext hxn
    have hy1 := hy1.ext hxn
    have hmL := hmL.ext hxn
    have hoL := hoL.ext hxn
    have hxL := hxL.trans hxn
    have hrv : roundsV n = .tuple ⟨[S (roundsL n), .bool true]⟩ := by rw [roundsV, if_pos (by omega), Int.toNat_natCast]
    rw [hrv]
    simp only [↓vsd, vsn, gW, qd, qv, ev, pick, argE, zipE, ne_eq, eq_self, forall_const, implies_true, if_true, if_false, reduceIte, reduceCtorEq, Nat.reduceEqDiff, Nat.reduceAdd, Nat.reduceLT, ↓us_lFnPaths, r_lFnPaths, hmL.facts, fMg]
    refine m_call (iLeadRows_okp nm n x cs (roundsL n) hnm' hc8' hcs' _ hoL.sq) ?_
    rintro _ w9 hxn ⟨l9, rfl, hol⟩
    have hz := hz.ext hxn
    have hy1 := hy1.ext hxn
    have hmL := hmL.ext hxn
    have hoL := hoL.ext hxn
    have hxL := hxL.trans hxn
    have hlo : LeadOk nm n cs (roundsL n) := ⟨hm, roundsL_row n h38, by rw [roundsL_len]⟩
    have hloD := decide_eq_true hlo
    rw [leadV, if_pos hlo] at hol
    simp only [↓vsd, vsn, gW, qd, qv, ev, pick, argE, zipE, ne_eq, eq_self, forall_const, implies_true, if_true, if_false, reduceIte, reduceCtorEq, Nat.reduceEqDiff, Nat.reduceAdd, Nat.reduceLT, ↓us_lFnPaths, r_lFnPaths, hloD, hmL.facts, fMg]
    refine m_call (iLeadHead_ok nm n x cs hnm' hc8' hcs' _ hoL.sq) ?_
    rintro _ w10 hxn rfl
    have hz := hz.ext hxn
    have hy1 := hy1.ext hxn
    have hol := hol.ext hxn
    have hmL := hmL.ext hxn
    have hoL := hoL.ext hxn
    have hxL := hxL.trans hxn
    have hhv : headV nm n cs = .tuple ⟨[S (underL (roundsL n) cs), .bool true]⟩ := by rw [headV, if_pos hm, Int.toNat_natCast]
    rw [hhv]
    simp only [↓vsd, vsn, gW, qd, qv, ev, pick, argE, zipE, ne_eq, eq_self, forall_const, implies_true, if_true, if_false, reduceIte, reduceCtorEq, Nat.reduceEqDiff, Nat.reduceAdd, Nat.reduceLT, ↓us_lFnPaths, r_lFnPaths]
    refine m_bsl (by simp) ?_
    rintro b11 w11 hb11 hblk11 hx11 hs11
    have hx11 : Ext w10 w11 := by first | exact hx11 | exact ud hx11 | exact ud (ud hx11)
    simp only [↓vsd, vsn, gW, qd, qv, ev, pick, argE, zipE, ne_eq, eq_self, forall_const, implies_true, if_true, if_false, reduceIte, reduceCtorEq, Nat.reduceEqDiff, Nat.reduceAdd, Nat.reduceLT, ↓us_lFnPaths, r_lFnPaths]
    have hoe : Own fS 1 9 w10.heap.size w11 (.slice (some ⟨b11, 0, none⟩) 0 0) ([] : List (List UInt8)) := (Own.empty fS_len hblk11 (by omega)).to rfl
    refine m_app hoe (hol.sq.ext hx11) fS_one (by decide) (by rw [rowsU_len, List.length_nil]; omega) (by decide) hx11.size ?_
    rintro y12 w12 ho12 hg12
    have hx12 := hoe.grown hx11 (Nat.le_refl _) hg12
    simp only [↓vsd, vsn, gW, qd, qv, ev, pick, argE, zipE, ne_eq, eq_self, forall_const, implies_true, if_true, if_false, reduceIte, reduceCtorEq, Nat.reduceEqDiff, Nat.reduceAdd, Nat.reduceLT, ↓us_lFnPaths, r_lFnPaths]
    refine m_bsl (one_el rfl) ?_
    rintro b13 w13 hb13 hblk13 hx13 hs13
    have hx13 : Ext w12 w13 := by first | exact hx13 | exact ud hx13 | exact ud (ud hx13)
    simp only [↓vsd, vsn, gW, qd, qv, ev, pick, argE, zipE, ne_eq, eq_self, forall_const, implies_true, if_true, if_false, reduceIte, reduceCtorEq, Nat.reduceEqDiff, Nat.reduceAdd, Nat.reduceLT, ↓us_lFnPaths, r_lFnPaths]
    have hx103 := hx12.trans hx13
    refine m_app (ho12.ext hx13) (Sq.one fS_len hblk13 rfl) fS_one (by decide) (by simp [rowsU_len]; omega) (by decide) hx103.size ?_
    rintro y14 w14 ho14 hg14
    have hxn := (ho12.ext hx13).grown hx103 (Nat.le_refl _) hg14
    have hz := hz.ext hxn
    have hy1 := hy1.ext hxn
    have hmL := hmL.ext hxn
    have hoL := hoL.ext hxn
    have hxL := hxL.trans hxn
    have ho14 := ho14.to (show ([] ++ rowsU (roundsL n) cs cs.length) ++ [underL (roundsL n) cs] = rowsU (roundsL n) cs (cs.length + 1) by simp [rowsU, List.range_succ])
    simp only [↓vsd, vsn, gW, qd, qv, ev, pick, argE, zipE, ne_eq, eq_self, forall_const, implies_true, if_true, if_false, reduceIte, reduceCtorEq, Nat.reduceEqDiff, Nat.reduceAdd, Nat.reduceLT, ↓us_lFnPaths, r_lFnPaths]
    refine m_call (lsameTexts_ok z y14 _ _ _ hz.sq ho14.sq (by rw [rowsU_len]; omega)) ?_
    rintro _ w15 hxn rfl
    have hxn : Ext w14 w15 := by first | exact hxn | exact ud hxn | exact ud (ud hxn)
    have hy1 := hy1.ext hxn
    have hmL := hmL.ext hxn
    have hoL := hoL.ext hxn
    have hxL := hxL.trans hxn
    have hpl := pathsL_len n cs n
    simp only [↓vsd, vsn, gW, qd, qv, ev, pick, argE, zipE, ne_eq, eq_self, forall_const, implies_true, if_true, if_false, reduceIte, reduceCtorEq, Nat.reduceEqDiff, Nat.reduceAdd, Nat.reduceLT, ↓us_lFnPaths, r_lFnPaths, hy1.facts, hpl, hmL.facts, fMg]
    refine m_upto n (fun b vs w' => vs = [.int .i64 b] ∧ Ext w15 w') ⟨rfl, Ext.refl _⟩ ?_
    rintro b vs w16 hb ⟨rfl, hx16⟩
    have hy16 := hy1.ext hx16
    have hm16 := hmL.ext hx16
    have ho16 := hoL.ext hx16
    have hx016 := hxL.trans hx16
    by_cases hlt : b < n
    · have hltI : (b : Int) < n := by omega
      have hltJ : ¬ (n : Int) ≤ b := by omega
      obtain ⟨xv, xa, hxq⟩ := hy16.at (i := b) (by omega)
      rw [pathsL_get n cs n b hlt] at hxq
      have hB : pathOk nm n cs ((b + 1 : Nat) : Int) := ⟨hm, by omega, by omega⟩
      have hBd := decide_eq_true hB
      have hst := fun i (hi : i < cs.length) => path_step hm hlt hi
      have hrg := fun i (hi : i < cs.length + 1) => path_rng h38 cs hlt hi
      have hpP : (pathP (rowsU (roundsL n) cs (cs.length + 1)) ((b + 1 : Nat) : Int)).length = cs.length + 1 := by rw [pathP_len, rowsU_len]
      have hpR : pathR nm n cs ((b + 1 : Nat) : Int) = pathP (rowsU (roundsL n) cs (cs.length + 1)) ((b + 1 : Nat) : Int) := by rw [pathR, if_pos hB, Int.toNat_natCast]
      have hwk : wkR nm n cs ((b + 1 : Nat) : Int) = .tuple ⟨[S (workL (pathP (rowsU (roundsL n) cs (cs.length + 1)) ((b + 1 : Nat) : Int)) cs.length), .bool true]⟩ := by rw [wkR, if_pos hB, Int.toNat_natCast]
      have hwl := workL_len (pathP (rowsU (roundsL n) cs (cs.length + 1)) ((b + 1 : Nat) : Int)) cs.length
      generalize pathP (rowsU (roundsL n) cs (cs.length + 1)) ((b + 1 : Nat) : Int) = pp at *
      have e1 : (b : Int) + 1 = ((b + 1 : Nat) : Int) := by omega
      simp only [↓vsd, vsn, gW, qd, qv, ev, pick, argE, zipE, ne_eq, eq_self, forall_const, implies_true, if_true, if_false, reduceIte, reduceCtorEq, Nat.reduceEqDiff, Nat.reduceAdd, Nat.reduceLT, ↓us_lFnPaths, r_lFnPaths, hltI, hltJ, hy16.facts, hpl, xa, hm16.facts, fMg, e1]
      refine ⟨by omega, inR_i64 (by omega), ?_⟩
      refine m_call (iPathOf_ok nm n x cs _ hnm' hc8' hcs' _ (by first | exact ho16.sq | exact ho16.sq.ext (dr (Ext.refl _)))) ?_
      rintro _ w17 hx17 ⟨py, rfl, hpy⟩
      have hx17 : Ext w16 w17 := by first | exact hx17 | exact ud hx17 | exact ud (ud hx17)
      have hpy := hpy.to hpR
      have hm17 := hm16.ext hx17
      have ho17 := ho16.ext hx17
      have hxq := hxq.ext hx17
      simp only [↓vsd, vsn, gW, qd, qv, ev, pick, argE, zipE, ne_eq, eq_self, forall_const, implies_true, if_true, if_false, reduceIte, reduceCtorEq, Nat.reduceEqDiff, Nat.reduceAdd, Nat.reduceLT, ↓us_lFnPaths, r_lFnPaths, hBd, hm17.facts, fMg, e1]
      refine ⟨inR_i64 (by omega), m_call (iWorkText_ok nm n x cs _ hnm' hc8' hcs' _ ho17.sq) ?_⟩
      rintro _ w18 hx18 rfl
      have hx18 : Ext w17 w18 := by first | exact hx18 | exact ud hx18 | exact ud (ud hx18)
      rw [hwk]
      simp only [↓vsd, vsn, gW, qd, qv, ev, pick, argE, zipE, ne_eq, eq_self, forall_const, implies_true, if_true, if_false, reduceIte, reduceCtorEq, Nat.reduceEqDiff, Nat.reduceAdd, Nat.reduceLT, ↓us_lFnPaths, r_lFnPaths]
      refine m_call (lsameInts_ok xv py pp pp _ (hxq.ext hx18) (hpy.ext hx18).sq (by omega)) ?_
      rintro _ w19 hx19 rfl
      have hx19 : Ext w18 w19 := by first | exact hx19 | exact ud hx19 | exact ud (ud hx19)
      have hxq := (hxq.ext hx18).ext hx19
      have hxf := hxq.facts
      rw [hpP] at hxf
      have e2 : ((cs.length + 1 : Nat) : Int) - 1 = (cs.length : Int) := by omega
      simp only [↓vsd, vsn, gW, qd, qv, ev, pick, argE, zipE, ne_eq, eq_self, forall_const, implies_true, if_true, if_false, reduceIte, reduceCtorEq, Nat.reduceEqDiff, Nat.reduceAdd, Nat.reduceLT, ↓us_lFnPaths, r_lFnPaths, hxf, hwl, e2]
      refine ⟨inR_i64 (by omega), ?_⟩
      refine m_upto cs.length (fun k vs w' => vs = [.int .i64 (k + 1 : Nat)] ∧ Ext w19 w') ⟨rfl, Ext.refl _⟩ ?_
      rintro k vs w20 hk ⟨rfl, hx20⟩
      have hxq20 := hxq.ext hx20
      have hxf20 := hxq20.facts
      rw [hpP] at hxf20
      by_cases hlt2 : k < cs.length
      · have hlt2I : ((k + 1 : Nat) : Int) < ((cs.length + 1 : Nat) : Int) := by omega
        have e3 : ((k + 1 : Nat) : Int) - 1 = (k : Int) := by omega
        have e4 : ((k + 1 : Nat) : Int) + 1 = ((k + 1 + 1 : Nat) : Int) := by omega
        have a0 := hxq20.at1 0 (i := k) (by omega)
        have a1 := hxq20.at1 0 (i := k + 1) (by omega)
        have hr0 := hrg k (by omega)
        have hr1 := hrg (k + 1) (by omega)
        have hs01 := hst k hlt2
        generalize pp.getD k 0 = z0 at *
        generalize pp.getD (k + 1) 0 = z1 at *
        simp only [↓vsd, vsn, gW, qd, qv, ev, pick, argE, zipE, ne_eq, eq_self, forall_const, implies_true, if_true, if_false, reduceIte, reduceCtorEq, Nat.reduceEqDiff, Nat.reduceAdd, Nat.reduceLT, ↓us_lFnPaths, r_lFnPaths, hlt2I, e3, e4, hxf20, a0, a1, fI_get]
        exact ⟨by omega, inR_i64 (by omega), ⟨by omega, by omega⟩, inR_i64 (by omega), fun hh => by omega, fun _ => ⟨inR_i64 (by omega), UpTo.next hlt2 ⟨rfl, by first | exact hx20 | exact dr hx20⟩⟩⟩
      · obtain rfl : k = cs.length := by omega
        have hlt2I : ¬ ((cs.length + 1 : Nat) : Int) < ((cs.length + 1 : Nat) : Int) := by omega
        have hx1620 := ((hx17.trans hx18).trans hx19).trans hx20
        simp only [↓vsd, vsn, gW, qd, qv, ev, pick, argE, zipE, ne_eq, eq_self, forall_const, implies_true, if_true, if_false, reduceIte, reduceCtorEq, Nat.reduceEqDiff, Nat.reduceAdd, Nat.reduceLT, ↓us_lFnPaths, r_lFnPaths, hlt2I, hxf20, e1]
        exact ⟨inR_i64 (by omega), UpTo.next hlt ⟨rfl, hx16.trans hx1620⟩⟩
    · obtain rfl : b = n := by omega
      have hltI : ¬ (b : Int) < b := by omega
      simp only [↓vsd, vsn, gW, qd, qv, ev, pick, argE, zipE, ne_eq, eq_self, forall_const, implies_true, if_true, if_false, reduceIte, reduceCtorEq, Nat.reduceEqDiff, Nat.reduceAdd, Nat.reduceLT, ↓us_lFnPaths, r_lFnPaths, hltI]
      have hxT := hx016
      refine m_call (sDrawRowsOf_ok u more hlen.2 _ (h'.ext hxT)) ?_
      rintro q t1 hx1 ⟨ls, hoq, hql, hqb⟩
      have hxT1 : Ext w t1 := hxT.trans hx1
      simp only [↓vsd, vsn, gW, qd, qv, ev, pick, argE, zipE, ne_eq, eq_self, forall_const, implies_true, if_true, if_false, reduceIte, reduceCtorEq, Nat.reduceEqDiff, Nat.reduceAdd, Nat.reduceLT, ↓us_lFnPaths, r_lFnPaths]
      refine m_call (iRowsOf_ok q ls (by omega) (fun x hx => by have := hqb x hx; omega) _ hoq) ?_
      rintro _ t2 hx2 ⟨r1, rfl, hr1⟩
      have hoq := hoq.ext hx2
      simp only [↓vsd, vsn, gW, qd, qv, ev, pick, argE, zipE, ne_eq, eq_self, forall_const, implies_true, if_true, if_false, reduceIte, reduceCtorEq, Nat.reduceEqDiff, Nat.reduceAdd, Nat.reduceLT, ↓us_lFnPaths, r_lFnPaths]
      refine m_call (sRowsOf_ok q ls (by omega) (fun x hx => by have := hqb x hx; omega) _ hoq) ?_
      rintro _ t3 hx3 ⟨r2, rfl, hr2⟩
      have hr1 := hr1.ext hx3
      simp only [↓vsd, vsn, gW, qd, qv, ev, pick, argE, zipE, ne_eq, eq_self, forall_const, implies_true, if_true, if_false, reduceIte, reduceCtorEq, Nat.reduceEqDiff, Nat.reduceAdd, Nat.reduceLT, ↓us_lFnPaths, r_lFnPaths]
      have hxT3 := (hxT1.trans hx2).trans hx3
      refine m_call (sDrawPathOf_ok u more hlen.2 _ (h'.ext hxT3)) ?_
      rintro _ t4 hx4 ⟨nm2, st2, a2, cs2, b2, rfl, ho2, hnm2, hst2, hcs2, hc82⟩
      have hr1 := hr1.ext hx4
      have hr2 := hr2.ext hx4
      have hxT4 := hxT3.trans hx4
      have hnm2' : nm2.length ≤ 1048576 := by omega
      have hc82' : ∀ c ∈ cs2, c.length ≤ 1048576 := fun c hc => by have := hc82 c hc; omega
      have hcs2' : cs2.length ≤ 1000000000 := by omega
      simp only [↓vsd, vsn, gW, qd, qv, ev, pick, argE, zipE, ne_eq, eq_self, forall_const, implies_true, if_true, if_false, reduceIte, reduceCtorEq, Nat.reduceEqDiff, Nat.reduceAdd, Nat.reduceLT, ↓us_lFnPaths, r_lFnPaths]
      refine m_al ?_
      rintro b5 w5 hb5 hblk5 hx5 hs5
      simp only [↓vsd, vsn, gW, qd, qv, ev, pick, argE, zipE, ne_eq, eq_self, forall_const, implies_true, if_true, if_false, reduceIte, reduceCtorEq, Nat.reduceEqDiff, Nat.reduceAdd, Nat.reduceLT, ↓us_lFnPaths, r_lFnPaths]
      refine m_st hblk5 rfl (Nat.le_refl 3) (fM_one nm2 st2 a2 ho2.sq.one') ?_
      rintro w6 hblk6 hu6
      have hm6 : Blk w6 b5 (fM nm2 st2 a2) 26 := hblk6
      have hx46 : Ext t4 w6 := hu6.below hx5 (by omega)
      have ho6 := (ho2.ext hx5).upd hu6 (ho2.away (by omega))
      have hr1 := hr1.ext hx46
      have hr2 := hr2.ext hx46
      have hxT6 := hxT4.trans hx46
      clear hblk5 hblk6 hu6 hx5
      simp only [↓vsd, vsn, gW, qd, qv, ev, pick, argE, zipE, ne_eq, eq_self, forall_const, implies_true, if_true, if_false, reduceIte, reduceCtorEq, Nat.reduceEqDiff, Nat.reduceAdd, Nat.reduceLT, ↓us_lFnPaths, r_lFnPaths, hm6.facts, fMg]
      refine m_call (iPathOf_ok nm2 st2 a2 cs2 b2 hnm2' hc82' hcs2' _ ho6.sq) ?_
      rintro _ w7 hx7 ⟨p1, rfl, hp1⟩
      have hm7 := hm6.ext hx7
      have ho7 := ho6.ext hx7
      simp only [↓vsd, vsn, gW, qd, qv, ev, pick, argE, zipE, ne_eq, eq_self, forall_const, implies_true, if_true, if_false, reduceIte, reduceCtorEq, Nat.reduceEqDiff, Nat.reduceAdd, Nat.reduceLT, ↓us_lFnPaths, r_lFnPaths, hm7.facts, fMg]
      refine m_call (sPathOf_ok nm2 st2 a2 cs2 b2 hnm2' hc82' hcs2' _ ho7.sq) ?_
      rintro _ w8 hx8 ⟨p2, rfl, hp2⟩
      have hm8 := hm7.ext hx8
      have ho8 := ho7.ext hx8
      simp only [↓vsd, vsn, gW, qd, qv, ev, pick, argE, zipE, ne_eq, eq_self, forall_const, implies_true, if_true, if_false, reduceIte, reduceCtorEq, Nat.reduceEqDiff, Nat.reduceAdd, Nat.reduceLT, ↓us_lFnPaths, r_lFnPaths, hm8.facts, fMg]
      refine m_call (iWorkText_ok nm2 st2 a2 cs2 b2 hnm2' hc82' hcs2' _ ho8.sq) ?_
      rintro _ w9 hx9 rfl
      have hm9 := hm8.ext hx9
      have ho9 := ho8.ext hx9
      obtain ⟨wl, wb, hwv⟩ : ∃ wl wb, wkR nm2 st2 cs2 b2 = .tuple ⟨[S wl, .bool wb]⟩ := by
        unfold wkR; split
        · exact ⟨_, _, rfl⟩
        · exact ⟨_, _, rfl⟩
      rw [hwv]
      simp only [↓vsd, vsn, gW, qd, qv, ev, pick, argE, zipE, ne_eq, eq_self, forall_const, implies_true, if_true, if_false, reduceIte, reduceCtorEq, Nat.reduceEqDiff, Nat.reduceAdd, Nat.reduceLT, ↓us_lFnPaths, r_lFnPaths, hm9.facts, fMg]
      refine m_call (sWorkText_ok nm2 st2 a2 cs2 b2 hnm2' hc82' hcs2' _ ho9.sq) ?_
      rintro _ w10 hx10 rfl
      rw [hwv]
      have hx610 := ((hx7.trans hx8).trans hx9).trans hx10
      have hr1 := hr1.ext hx610
      have hr2 := hr2.ext hx610
      have hrl : (rowsV ls).length ≤ 800 := by
        unfold rowsV; split
        · rename_i hh; rw [rowsAt_len]; exact hh.2.1.2
        · simp
      have hpl2 : (pathR nm2 st2 cs2 b2).length ≤ 1000 := by
        unfold pathR; split
        · rw [pathP_len, rowsU_len]; omega
        · simp
      simp only [↓vsd, vsn, gW, qd, qv, ev, pick, argE, zipE, ne_eq, eq_self, forall_const, implies_true, if_true, if_false, reduceIte, reduceCtorEq, Nat.reduceEqDiff, Nat.reduceAdd, Nat.reduceLT, ↓us_lFnPaths, r_lFnPaths]
      refine m_call (lsameTexts_ok r1 r2 _ _ _ hr1.sq hr2.sq (by omega)) ?_
      rintro _ w11 hx11 rfl
      have hx11 : Ext w10 w11 := by first | exact hx11 | exact ud hx11 | exact ud (ud hx11)
      simp only [↓vsd, vsn, gW, qd, qv, ev, pick, argE, zipE, ne_eq, eq_self, forall_const, implies_true, if_true, if_false, reduceIte, reduceCtorEq, Nat.reduceEqDiff, Nat.reduceAdd, Nat.reduceLT, ↓us_lFnPaths, r_lFnPaths]
      refine m_call (lsameInts_ok p1 p2 _ _ _ ((((hp1.ext hx8).ext hx9).ext hx10).ext hx11).sq (((hp2.ext hx9).ext hx10).ext hx11).sq (by omega)) ?_
      rintro _ w12 hx12 rfl
      have hx12 : Ext w11 w12 := by first | exact hx12 | exact ud hx12 | exact ud (ud hx12)
      simp only [↓vsd, vsn, gW, qd, qv, ev, pick, argE, zipE, ne_eq, eq_self, forall_const, implies_true, if_true, if_false, reduceIte, reduceCtorEq, Nat.reduceEqDiff, Nat.reduceAdd, Nat.reduceLT, ↓us_lFnPaths, r_lFnPaths]
      exact ((hxT6.trans hx610).trans hx11).trans hx12
  · have hPd := decide_eq_false hm
    simp only [↓vsd, vsn, gW, qd, qv, ev, pick, argE, zipE, ne_eq, eq_self, forall_const, implies_true, if_true, if_false, reduceIte, reduceCtorEq, Nat.reduceEqDiff, Nat.reduceAdd, Nat.reduceLT, ↓us_lFnPaths, r_lFnPaths, hPd]
    have hxT := hxL
    refine m_call (sDrawRowsOf_ok u more hlen.2 _ (h'.ext hxT)) ?_
    rintro q t1 hx1 ⟨ls, hoq, hql, hqb⟩
    have hxT1 : Ext w t1 := hxT.trans hx1
    simp only [↓vsd, vsn, gW, qd, qv, ev, pick, argE, zipE, ne_eq, eq_self, forall_const, implies_true, if_true, if_false, reduceIte, reduceCtorEq, Nat.reduceEqDiff, Nat.reduceAdd, Nat.reduceLT, ↓us_lFnPaths, r_lFnPaths]
    refine m_call (iRowsOf_ok q ls (by omega) (fun x hx => by have := hqb x hx; omega) _ hoq) ?_
    rintro _ t2 hx2 ⟨r1, rfl, hr1⟩
    have hoq := hoq.ext hx2
    simp only [↓vsd, vsn, gW, qd, qv, ev, pick, argE, zipE, ne_eq, eq_self, forall_const, implies_true, if_true, if_false, reduceIte, reduceCtorEq, Nat.reduceEqDiff, Nat.reduceAdd, Nat.reduceLT, ↓us_lFnPaths, r_lFnPaths]
    refine m_call (sRowsOf_ok q ls (by omega) (fun x hx => by have := hqb x hx; omega) _ hoq) ?_
    rintro _ t3 hx3 ⟨r2, rfl, hr2⟩
    have hr1 := hr1.ext hx3
    simp only [↓vsd, vsn, gW, qd, qv, ev, pick, argE, zipE, ne_eq, eq_self, forall_const, implies_true, if_true, if_false, reduceIte, reduceCtorEq, Nat.reduceEqDiff, Nat.reduceAdd, Nat.reduceLT, ↓us_lFnPaths, r_lFnPaths]
    have hxT3 := (hxT1.trans hx2).trans hx3
    refine m_call (sDrawPathOf_ok u more hlen.2 _ (h'.ext hxT3)) ?_
    rintro _ t4 hx4 ⟨nm2, st2, a2, cs2, b2, rfl, ho2, hnm2, hst2, hcs2, hc82⟩
    have hr1 := hr1.ext hx4
    have hr2 := hr2.ext hx4
    have hxT4 := hxT3.trans hx4
    have hnm2' : nm2.length ≤ 1048576 := by omega
    have hc82' : ∀ c ∈ cs2, c.length ≤ 1048576 := fun c hc => by have := hc82 c hc; omega
    have hcs2' : cs2.length ≤ 1000000000 := by omega
    simp only [↓vsd, vsn, gW, qd, qv, ev, pick, argE, zipE, ne_eq, eq_self, forall_const, implies_true, if_true, if_false, reduceIte, reduceCtorEq, Nat.reduceEqDiff, Nat.reduceAdd, Nat.reduceLT, ↓us_lFnPaths, r_lFnPaths]
    refine m_al ?_
    rintro b5 w5 hb5 hblk5 hx5 hs5
    simp only [↓vsd, vsn, gW, qd, qv, ev, pick, argE, zipE, ne_eq, eq_self, forall_const, implies_true, if_true, if_false, reduceIte, reduceCtorEq, Nat.reduceEqDiff, Nat.reduceAdd, Nat.reduceLT, ↓us_lFnPaths, r_lFnPaths]
    refine m_st hblk5 rfl (Nat.le_refl 3) (fM_one nm2 st2 a2 ho2.sq.one') ?_
    rintro w6 hblk6 hu6
    have hm6 : Blk w6 b5 (fM nm2 st2 a2) 26 := hblk6
    have hx46 : Ext t4 w6 := hu6.below hx5 (by omega)
    have ho6 := (ho2.ext hx5).upd hu6 (ho2.away (by omega))
    have hr1 := hr1.ext hx46
    have hr2 := hr2.ext hx46
    have hxT6 := hxT4.trans hx46
    clear hblk5 hblk6 hu6 hx5
    simp only [↓vsd, vsn, gW, qd, qv, ev, pick, argE, zipE, ne_eq, eq_self, forall_const, implies_true, if_true, if_false, reduceIte, reduceCtorEq, Nat.reduceEqDiff, Nat.reduceAdd, Nat.reduceLT, ↓us_lFnPaths, r_lFnPaths, hm6.facts, fMg]
    refine m_call (iPathOf_ok nm2 st2 a2 cs2 b2 hnm2' hc82' hcs2' _ ho6.sq) ?_
    rintro _ w7 hx7 ⟨p1, rfl, hp1⟩
    have hm7 := hm6.ext hx7
    have ho7 := ho6.ext hx7
    simp only [↓vsd, vsn, gW, qd, qv, ev, pick, argE, zipE, ne_eq, eq_self, forall_const, implies_true, if_true, if_false, reduceIte, reduceCtorEq, Nat.reduceEqDiff, Nat.reduceAdd, Nat.reduceLT, ↓us_lFnPaths, r_lFnPaths, hm7.facts, fMg]
    refine m_call (sPathOf_ok nm2 st2 a2 cs2 b2 hnm2' hc82' hcs2' _ ho7.sq) ?_
    rintro _ w8 hx8 ⟨p2, rfl, hp2⟩
    have hm8 := hm7.ext hx8
    have ho8 := ho7.ext hx8
    simp only [↓vsd, vsn, gW, qd, qv, ev, pick, argE, zipE, ne_eq, eq_self, forall_const, implies_true, if_true, if_false, reduceIte, reduceCtorEq, Nat.reduceEqDiff, Nat.reduceAdd, Nat.reduceLT, ↓us_lFnPaths, r_lFnPaths, hm8.facts, fMg]
    refine m_call (iWorkText_ok nm2 st2 a2 cs2 b2 hnm2' hc82' hcs2' _ ho8.sq) ?_
    rintro _ w9 hx9 rfl
    have hm9 := hm8.ext hx9
    have ho9 := ho8.ext hx9
    obtain ⟨wl, wb, hwv⟩ : ∃ wl wb, wkR nm2 st2 cs2 b2 = .tuple ⟨[S wl, .bool wb]⟩ := by
      unfold wkR; split
      · exact ⟨_, _, rfl⟩
      · exact ⟨_, _, rfl⟩
    rw [hwv]
    simp only [↓vsd, vsn, gW, qd, qv, ev, pick, argE, zipE, ne_eq, eq_self, forall_const, implies_true, if_true, if_false, reduceIte, reduceCtorEq, Nat.reduceEqDiff, Nat.reduceAdd, Nat.reduceLT, ↓us_lFnPaths, r_lFnPaths, hm9.facts, fMg]
    refine m_call (sWorkText_ok nm2 st2 a2 cs2 b2 hnm2' hc82' hcs2' _ ho9.sq) ?_
    rintro _ w10 hx10 rfl
    rw [hwv]
    have hx610 := ((hx7.trans hx8).trans hx9).trans hx10
    have hr1 := hr1.ext hx610
    have hr2 := hr2.ext hx610
    have hrl : (rowsV ls).length ≤ 800 := by
      unfold rowsV; split
      · rename_i hh; rw [rowsAt_len]; exact hh.2.1.2
      · simp
    have hpl2 : (pathR nm2 st2 cs2 b2).length ≤ 1000 := by
      unfold pathR; split
      · rw [pathP_len, rowsU_len]; omega
      · simp
    simp only [↓vsd, vsn, gW, qd, qv, ev, pick, argE, zipE, ne_eq, eq_self, forall_const, implies_true, if_true, if_false, reduceIte, reduceCtorEq, Nat.reduceEqDiff, Nat.reduceAdd, Nat.reduceLT, ↓us_lFnPaths, r_lFnPaths]
    refine m_call (lsameTexts_ok r1 r2 _ _ _ hr1.sq hr2.sq (by omega)) ?_
    rintro _ w11 hx11 rfl
    have hx11 : Ext w10 w11 := by first | exact hx11 | exact ud hx11 | exact ud (ud hx11)
    simp only [↓vsd, vsn, gW, qd, qv, ev, pick, argE, zipE, ne_eq, eq_self, forall_const, implies_true, if_true, if_false, reduceIte, reduceCtorEq, Nat.reduceEqDiff, Nat.reduceAdd, Nat.reduceLT, ↓us_lFnPaths, r_lFnPaths]
    refine m_call (lsameInts_ok p1 p2 _ _ _ ((((hp1.ext hx8).ext hx9).ext hx10).ext hx11).sq (((hp2.ext hx9).ext hx10).ext hx11).sq (by omega)) ?_
    rintro _ w12 hx12 rfl
    have hx12 : Ext w11 w12 := by first | exact hx12 | exact ud hx12 | exact ud (ud hx12)
    simp only [↓vsd, vsn, gW, qd, qv, ev, pick, argE, zipE, ne_eq, eq_self, forall_const, implies_true, if_true, if_false, reduceIte, reduceCtorEq, Nat.reduceEqDiff, Nat.reduceAdd, Nat.reduceLT, ↓us_lFnPaths, r_lFnPaths]
    exact ((hxT6.trans hx610).trans hx11).trans hx12
end Go.Proofs.Ytnincmnkdjlndaa
