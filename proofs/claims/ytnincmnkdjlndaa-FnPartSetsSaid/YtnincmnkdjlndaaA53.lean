/-
  Sorted lists of texts: the reference's merge, the library's sort, the search in a sorted list.
  Conditions: none.
-/
import Derived.Test.YtnincmnkdjlndaaD10
import Derived.Test.YtnincmnkdjlndaaPs
import Derived.Test.YtnincmnkdjlndaaVy
import Derived.Test.YtnincmnkdjlndaaA22
import Derived.Sort.OwnSorted
set_option linter.unusedSimpArgs false
set_option linter.unusedVariables false
set_option linter.defProp false
namespace Go.Proofs.Ytnincmnkdjlndaa
open Go Go.RowKit
section
variable (P : Program) (k : KT) (e : Env) (w : World)
abbrev b230_1 : X := (.cond (.t 11) (.seq (.reg [2] (.c (.q 12 [] (.mv (.t 3))) (.c (.q 2 [] (.mv (.t 12))) .nil))) .ret) .skip)
def t230_1 := b230_1
theorem u230_1 : vcK P t230_1 k e w = vcK P b230_1 k e w := rfl
abbrev b230_2 : X := (.cond (.t 32) .skip (.exit 0))
def t230_2 := b230_2
theorem u230_2 : vcK P t230_2 k e w = vcK P b230_2 k e w := rfl
abbrev b230_3 : X := (.reg [4, 5, 6] (.c (.q 46 [] (.mv (.t 5))) (.c (.q 47 [] (.ssl 1 (.t 46) (some (.c (.int .i64 1))) none)) (.c (.q 5 [] (.mv (.t 47))) .nil))))
def t230_3 := b230_3
theorem u230_3 : vcK P t230_3 k e w = vcK P b230_3 k e w := rfl
abbrev b230_4 : X := (.reg [4, 5, 6] (.c (.q 54 [] (.mv (.t 4))) (.c (.q 55 [] (.ssl 1 (.t 54) (some (.c (.int .i64 1))) none)) (.c (.q 4 [] (.mv (.t 55))) .nil))))
def t230_4 := b230_4
theorem u230_4 : vcK P t230_4 k e w = vcK P b230_4 k e w := rfl
abbrev b230_5 : X := (.cond (.t 39) (.seq (.reg [4, 5, 6] (.c (.q 40 [] (.mv (.t 6))) (.c (.q 41 [] (.mv (.t 5))) (.c (.q 42 [] (.ia 1 (.t 41) (.c (.int .i64 0)))) (.c (.q 43 [] (.ld (.t 42))) (.c (.e (some 44) [] (.bsl 9 1 [(.t 43)])) (.c (.e (some 45) [] (.app 24 9 1 16 [(S [])] 24 (.t 40) (.t 44))) (.c (.q 6 [] (.mv (.t 45))) .nil)))))))) t230_3) (.seq (.reg [4, 5, 6] (.c (.q 48 [] (.mv (.t 6))) (.c (.q 49 [] (.mv (.t 4))) (.c (.q 50 [] (.ia 1 (.t 49) (.c (.int .i64 0)))) (.c (.q 51 [] (.ld (.t 50))) (.c (.e (some 52) [] (.bsl 9 1 [(.t 51)])) (.c (.e (some 53) [] (.app 24 9 1 16 [(S [])] 24 (.t 48) (.t 52))) (.c (.q 6 [] (.mv (.t 53))) .nil)))))))) t230_4))
def t230_5 := b230_5
theorem u230_5 : vcK P t230_5 k e w = vcK P b230_5 k e w := rfl
abbrev b230_6 : X := (.blk 1 (.seq (.drw [4, 5, 6, 39] (.c (.q 33 [] (.mv (.t 5))) (.c (.q 34 [] (.ia 1 (.t 33) (.c (.int .i64 0)))) (.c (.q 35 [] (.ld (.t 34))) (.c (.q 36 [] (.mv (.t 4))) (.c (.q 37 [] (.ia 1 (.t 36) (.c (.int .i64 0)))) (.c (.q 38 [] (.ld (.t 37))) (.c (.q 39 [] (.bin .lss (.t 35) (.t 38))) .nil)))))))) t230_5))
def t230_6 := b230_6
theorem u230_6 : vcK P t230_6 k e w = vcK P b230_6 k e w := rfl
abbrev b230_7 : X := (.seq (.seq (.reg [4, 5, 6, 32] (.c (.q 25 [] (.mv (.t 4))) (.c (.q 26 [] (.lens (.t 25))) (.c (.q 27 [] (.bin .gtr (.t 26) (.c (.int .i64 0)))) (.c (.q 28 [] (.mv (.t 27))) (.c (.q 29 [(28, true)] (.mv (.t 5))) (.c (.q 30 [(28, true)] (.lens (.t 29))) (.c (.q 31 [(28, true)] (.bin .gtr (.t 30) (.c (.int .i64 0)))) (.c (.q 32 [] (.pick (.t 28) (.t 31) (.c (.bool false)))) .nil))))))))) t230_2) t230_6)
def t230_7 := b230_7
theorem u230_7 : vcK P t230_7 k e w = vcK P b230_7 k e w := rfl
abbrev b230_8 : X := (.seq (.reg [2] (.c (.q 56 [] (.mv (.t 6))) (.c (.q 57 [] (.mv (.t 4))) (.c (.e (some 58) [] (.app 24 9 1 16 [(S [])] 24 (.t 56) (.t 57))) (.c (.q 59 [] (.mv (.t 5))) (.c (.e (some 60) [] (.app 24 9 1 16 [(S [])] 24 (.t 58) (.t 59))) (.c (.q 2 [] (.mv (.t 60))) .nil))))))) .ret)
def t230_8 := b230_8
theorem u230_8 : vcK P t230_8 k e w = vcK P b230_8 k e w := rfl
abbrev b230_9 : X := (.seq (.blk 0 (.loop [4, 5, 6] [] t230_7)) t230_8)
def t230_9 := b230_9
theorem u230_9 : vcK P t230_9 k e w = vcK P b230_9 k e w := rfl
abbrev b230_10 : X := (.seq (.reg [4, 5, 6] (.c (.q 6 [] (.mv (.c (.slice none 0 0)))) .nil)) t230_9)
def t230_10 := b230_10
theorem u230_10 : vcK P t230_10 k e w = vcK P b230_10 k e w := rfl
abbrev b230_11 : X := (.seq (.drw [4, 5] (.c (.q 13 [] (.mv (.t 3))) (.c (.q 14 [] (.mv (.t 3))) (.c (.q 15 [] (.lens (.t 14))) (.c (.q 16 [] (.bin .quo (.t 15) (.c (.int .i64 2)))) (.c (.q 17 [] (.ssl 1 (.t 13) none (some (.t 16)))) (.c (.q 19 [] (.mv (.t 3))) (.c (.q 20 [] (.mv (.t 3))) (.c (.q 21 [] (.lens (.t 20))) (.c (.q 22 [] (.bin .quo (.t 21) (.c (.int .i64 2)))) (.c (.q 23 [] (.ssl 1 (.t 19) (some (.t 22)) none)) (.c (.e (some 18) [] (.call false 230 [(.t 17)])) (.c (.e (some 24) [] (.call false 230 [(.t 23)])) (.c (.q 4 [] (.mv (.t 18))) (.c (.q 5 [] (.mv (.t 24))) .nil))))))))))))))) t230_10)
def t230_11 := b230_11
theorem u230_11 : vcK P t230_11 k e w = vcK P b230_11 k e w := rfl
abbrev b230_12 : X := (.seq (.seq (.reg [3, 11] (.c (.q 9 [] (.mv (.t 3))) (.c (.q 10 [] (.lens (.t 9))) (.c (.q 11 [] (.bin .lss (.t 10) (.c (.int .i64 2)))) .nil)))) t230_1) t230_11)
def t230_12 := b230_12
theorem u230_12 : vcK P t230_12 k e w = vcK P b230_12 k e w := rfl
abbrev b230_13 : X := (.seq (.reg [3] (.c (.q 7 [] (.mv (.t 0))) (.c (.e (some 8) [] (.call false 183 [(.t 7)])) (.c (.q 3 [] (.mv (.t 8))) .nil)))) t230_12)
def t230_13 := b230_13
theorem u230_13 : vcK P t230_13 k e w = vcK P b230_13 k e w := rfl
abbrev b230_0 : X := (.seq (.reg [0] (.c (.q 2 [] (.mv (.c (.slice none 0 0)))) .nil)) t230_13)
def x_sl6Sort := b230_0
theorem u230_0 : vcK P x_sl6Sort k e w = vcK P b230_0 k e w := rfl
def r_sl6Sort : List XO := [(.mv (.t 2))]
theorem c_sl6Sort : convF Try.prog [147, 148, 152, 160, 162, 163, 170, 178, 206, 208, 210, 224, 233, 235, 236, 251, 264, 265, 268, 270, 287, 322] Try.f230 [([0], []), ([3], []), ([3, 11], []), ([2], []), ([4, 5], []), ([4, 5, 6], []), ([4, 5, 6], []), ([4, 5, 6, 32], []), ([4, 5, 6, 39], []), ([4, 5, 6], []), ([4, 5, 6], []), ([4, 5, 6], []), ([4, 5, 6], []), ([2], [])] = some (x_sl6Sort, r_sl6Sort) := by kernel_rfl
def us_sl6Sort :=  (aI (aI (aI @u230_0 (aI @u230_1 @u230_2)) (aI (aI @u230_3 @u230_4) (aI @u230_5 @u230_6))) (aI (aI @u230_7 (aI @u230_8 @u230_9)) (aI (aI @u230_10 @u230_11) (aI @u230_12 @u230_13))))
abbrev b227_1 : X := (.seq (.reg [2] (.c (.q 8 [] (.mv (.t 3))) (.c (.q 2 [] (.mv (.t 8))) .nil))) .ret)
def t227_1 := b227_1
theorem u227_1 : vcK P t227_1 k e w = vcK P b227_1 k e w := rfl
abbrev b227_2 : X := (.seq (.reg [3] (.c (.q 6 [] (.mv (.t 3))) (.c (.e (some 7) [] (.call true 206 [(.t 6)])) .nil))) t227_1)
def t227_2 := b227_2
theorem u227_2 : vcK P t227_2 k e w = vcK P b227_2 k e w := rfl
abbrev b227_3 : X := (.seq (.reg [3] (.c (.q 4 [] (.mv (.t 0))) (.c (.e (some 5) [] (.call false 144 [(.t 4)])) (.c (.q 3 [] (.mv (.t 5))) .nil)))) t227_2)
def t227_3 := b227_3
theorem u227_3 : vcK P t227_3 k e w = vcK P b227_3 k e w := rfl
abbrev b227_0 : X := (.seq (.reg [0] (.c (.q 2 [] (.mv (.c (.slice none 0 0)))) .nil)) t227_3)
def x_isorted := b227_0
theorem u227_0 : vcK P x_isorted k e w = vcK P b227_0 k e w := rfl
def r_isorted : List XO := [(.mv (.t 2))]
theorem c_isorted : convF Try.prog [147, 148, 152, 160, 162, 163, 170, 178, 206, 208, 210, 224, 233, 235, 236, 251, 264, 265, 268, 270, 287, 322] Try.f227 [([0], []), ([3], []), ([3], []), ([2], [])] = some (x_isorted, r_isorted) := by kernel_rfl
def us_isorted :=  (aI (aI @u227_0 @u227_1) (aI @u227_2 @u227_3))
abbrev b315_1 : X := (.seq (.reg [4] (.c (.q 5 [] (.mv (.t 0))) (.c (.e (some 6) [] (.call false 352 [(.t 5)])) (.c (.q 7 [] (.mv (.t 6))) (.c (.q 8 [(7, true)] (.mv (.t 1))) (.c (.e (some 9) [(7, true)] (.call false 352 [(.t 8)])) (.c (.q 10 [(7, true)] (.not (.t 9))) (.c (.q 11 [] (.pick (.t 7) (.t 10) (.c (.bool false)))) (.c (.q 12 [] (.mv (.t 11))) (.c (.q 13 [(12, false)] (.mv (.t 0))) (.c (.q 14 [(12, false)] (.mv (.t 1))) (.c (.q 15 [(12, false)] (.bin .lss (.t 13) (.t 14))) (.c (.q 16 [] (.pick (.t 12) (.c (.bool true)) (.t 15))) (.c (.q 4 [] (.mv (.t 16))) .nil)))))))))))))) .ret)
def t315_1 := b315_1
theorem u315_1 : vcK P t315_1 k e w = vcK P b315_1 k e w := rfl
abbrev b315_0 : X := (.seq (.reg [0, 1] (.c (.q 4 [] (.mv (.c (.bool false)))) .nil)) t315_1)
def x_xcmp_Less_string := b315_0
theorem u315_0 : vcK P x_xcmp_Less_string k e w = vcK P b315_0 k e w := rfl
def r_xcmp_Less_string : List XO := [(.mv (.t 4))]
theorem c_xcmp_Less_string : convF Try.prog [147, 148, 152, 160, 162, 163, 170, 178, 206, 208, 210, 224, 233, 235, 236, 251, 264, 265, 268, 270, 287, 322] Try.f315 [([0, 1], []), ([4], [])] = some (x_xcmp_Less_string, r_xcmp_Less_string) := by kernel_rfl
def us_xcmp_Less_string :=  (aI @u315_0 @u315_1)
abbrev b352_1 : X := (.seq (.reg [2] (.c (.q 3 [] (.mv (.t 0))) (.c (.q 4 [] (.mv (.t 0))) (.c (.q 5 [] (.bin .neq (.t 3) (.t 4))) (.c (.q 2 [] (.mv (.t 5))) .nil))))) .ret)
def t352_1 := b352_1
theorem u352_1 : vcK P t352_1 k e w = vcK P b352_1 k e w := rfl
abbrev b352_0 : X := (.seq (.reg [0] (.c (.q 2 [] (.mv (.c (.bool false)))) .nil)) t352_1)
def x_xcmp_isNaN_string := b352_0
theorem u352_0 : vcK P x_xcmp_isNaN_string k e w = vcK P b352_0 k e w := rfl
def r_xcmp_isNaN_string : List XO := [(.mv (.t 2))]
theorem c_xcmp_isNaN_string : convF Try.prog [147, 148, 152, 160, 162, 163, 170, 178, 206, 208, 210, 224, 233, 235, 236, 251, 264, 265, 268, 270, 287, 322] Try.f352 [([0], []), ([2], [])] = some (x_xcmp_isNaN_string, r_xcmp_isNaN_string) := by kernel_rfl
def us_xcmp_isNaN_string :=  (aI @u352_0 @u352_1)
abbrev b360_1 : X := (.seq (.reg [2] (.c (.q 3 [] (.mv (.t 0))) (.c (.q 4 [] (.mv (.t 0))) (.c (.q 5 [] (.bin .neq (.t 3) (.t 4))) (.c (.q 2 [] (.mv (.t 5))) .nil))))) .ret)
def t360_1 := b360_1
theorem u360_1 : vcK P t360_1 k e w = vcK P b360_1 k e w := rfl
abbrev b360_0 : X := (.seq (.reg [0] (.c (.q 2 [] (.mv (.c (.bool false)))) .nil)) t360_1)
def x_xslices_isNaN_string := b360_0
theorem u360_0 : vcK P x_xslices_isNaN_string k e w = vcK P b360_0 k e w := rfl
def r_xslices_isNaN_string : List XO := [(.mv (.t 2))]
theorem c_xslices_isNaN_string : convF Try.prog [147, 148, 152, 160, 162, 163, 170, 178, 206, 208, 210, 224, 233, 235, 236, 251, 264, 265, 268, 270, 287, 322] Try.f360 [([0], []), ([2], [])] = some (x_xslices_isNaN_string, r_xslices_isNaN_string) := by kernel_rfl
def us_xslices_isNaN_string :=  (aI @u360_0 @u360_1)
abbrev b330_1 : X := (.cond (.t 15) .skip (.exit 0))
def t330_1 := b330_1
theorem u330_1 : vcK P t330_1 k e w = vcK P b330_1 k e w := rfl
abbrev b330_2 : X := (.cond (.t 27) (.reg [0, 1, 6, 7, 8] (.c (.q 28 [] (.mv (.t 9))) (.c (.q 29 [] (.bin .add (.t 28) (.c (.int .i64 1)))) (.c (.q 7 [] (.mv (.t 29))) .nil)))) (.reg [0, 1, 6, 7, 8] (.c (.q 30 [] (.mv (.t 9))) (.c (.q 8 [] (.mv (.t 30))) .nil))))
def t330_2 := b330_2
theorem u330_2 : vcK P t330_2 k e w = vcK P b330_2 k e w := rfl
abbrev b330_3 : X := (.seq (.reg [0, 1, 6, 7, 8, 9, 27] (.c (.q 22 [] (.mv (.t 0))) (.c (.q 23 [] (.mv (.t 9))) (.c (.q 24 [] (.ia 1 (.t 22) (.t 23))) (.c (.q 25 [] (.ld (.t 24))) (.c (.q 26 [] (.mv (.t 1))) (.c (.e (some 27) [] (.call false 315 [(.t 25), (.t 26)])) .nil))))))) t330_2)
def t330_3 := b330_3
theorem u330_3 : vcK P t330_3 k e w = vcK P b330_3 k e w := rfl
abbrev b330_4 : X := (.blk 1 (.seq (.reg [0, 1, 6, 7, 8, 9] (.c (.q 16 [] (.mv (.t 7))) (.c (.q 17 [] (.mv (.t 8))) (.c (.q 18 [] (.bin .add (.t 16) (.t 17))) (.c (.q 19 [] (.cvi .u64 (.t 18))) (.c (.q 20 [] (.bin .shr (.t 19) (.c (.int .u64 1)))) (.c (.q 21 [] (.cvi .i64 (.t 20))) (.c (.q 9 [] (.mv (.t 21))) .nil)))))))) t330_3))
def t330_4 := b330_4
theorem u330_4 : vcK P t330_4 k e w = vcK P b330_4 k e w := rfl
abbrev b330_5 : X := (.seq (.seq (.reg [0, 1, 6, 7, 8, 15] (.c (.q 13 [] (.mv (.t 7))) (.c (.q 14 [] (.mv (.t 8))) (.c (.q 15 [] (.bin .lss (.t 13) (.t 14))) .nil)))) t330_1) t330_4)
def t330_5 := b330_5
theorem u330_5 : vcK P t330_5 k e w = vcK P b330_5 k e w := rfl
abbrev b330_6 : X := (.seq (.reg [4, 5] (.c (.q 31 [] (.mv (.t 7))) (.c (.q 32 [] (.mv (.t 7))) (.c (.q 33 [] (.mv (.t 6))) (.c (.q 34 [] (.bin .lss (.t 32) (.t 33))) (.c (.q 35 [] (.mv (.t 34))) (.c (.q 36 [(35, true)] (.mv (.t 0))) (.c (.q 37 [(35, true)] (.mv (.t 7))) (.c (.q 38 [(35, true)] (.ia 1 (.t 36) (.t 37))) (.c (.q 39 [(35, true)] (.ld (.t 38))) (.c (.q 40 [(35, true)] (.mv (.t 1))) (.c (.q 41 [(35, true)] (.bin .eql (.t 39) (.t 40))) (.c (.q 42 [(35, true)] (.mv (.t 41))) (.c (.q 43 [(42, false), (35, true)] (.mv (.t 0))) (.c (.q 44 [(42, false), (35, true)] (.mv (.t 7))) (.c (.q 45 [(42, false), (35, true)] (.ia 1 (.t 43) (.t 44))) (.c (.q 46 [(42, false), (35, true)] (.ld (.t 45))) (.c (.e (some 47) [(42, false), (35, true)] (.call false 360 [(.t 46)])) (.c (.q 48 [(42, false), (35, true)] (.mv (.t 47))) (.c (.q 49 [(48, true), (42, false), (35, true)] (.mv (.t 1))) (.c (.e (some 50) [(48, true), (42, false), (35, true)] (.call false 360 [(.t 49)])) (.c (.q 51 [(42, false), (35, true)] (.pick (.t 48) (.t 50) (.c (.bool false)))) (.c (.q 52 [(35, true)] (.pick (.t 42) (.c (.bool true)) (.t 51))) (.c (.q 53 [] (.pick (.t 35) (.t 52) (.c (.bool false)))) (.c (.q 4 [] (.mv (.t 31))) (.c (.q 5 [] (.mv (.t 53))) .nil)))))))))))))))))))))))))) .ret)
def t330_6 := b330_6
theorem u330_6 : vcK P t330_6 k e w = vcK P b330_6 k e w := rfl
abbrev b330_7 : X := (.seq (.blk 0 (.loop [7, 8] [0, 1, 6] t330_5)) t330_6)
def t330_7 := b330_7
theorem u330_7 : vcK P t330_7 k e w = vcK P b330_7 k e w := rfl
abbrev b330_8 : X := (.seq (.reg [0, 1, 6, 7, 8] (.c (.q 12 [] (.mv (.t 6))) (.c (.q 7 [] (.mv (.c (.int .i64 0)))) (.c (.q 8 [] (.mv (.t 12))) .nil)))) t330_7)
def t330_8 := b330_8
theorem u330_8 : vcK P t330_8 k e w = vcK P b330_8 k e w := rfl
abbrev b330_9 : X := (.seq (.reg [0, 1, 6] (.c (.q 10 [] (.mv (.t 0))) (.c (.q 11 [] (.lens (.t 10))) (.c (.q 6 [] (.mv (.t 11))) .nil)))) t330_8)
def t330_9 := b330_9
theorem u330_9 : vcK P t330_9 k e w = vcK P b330_9 k e w := rfl
abbrev b330_0 : X := (.seq (.reg [0, 1] (.c (.q 4 [] (.mv (.c (.int .i64 0)))) (.c (.q 5 [] (.mv (.c (.bool false)))) .nil))) t330_9)
def x_xslices_BinarySearch_string_string := b330_0
theorem u330_0 : vcK P x_xslices_BinarySearch_string_string k e w = vcK P b330_0 k e w := rfl
def r_xslices_BinarySearch_string_string : List XO := [(.mv (.t 4)), (.mv (.t 5))]
theorem c_xslices_BinarySearch_string_string : convF Try.prog [147, 148, 152, 160, 162, 163, 170, 178, 206, 208, 210, 224, 233, 235, 236, 251, 264, 265, 268, 270, 287, 322] Try.f330 [([0, 1], []), ([0, 1, 6], []), ([0, 1, 6, 7, 8], []), ([7, 8], [0, 1, 6]), ([0, 1, 6, 7, 8, 15], []), ([0, 1, 6, 7, 8, 9], []), ([0, 1, 6, 7, 8, 9, 27], []), ([0, 1, 6, 7, 8], []), ([0, 1, 6, 7, 8], []), ([4, 5], [])] = some (x_xslices_BinarySearch_string_string, r_xslices_BinarySearch_string_string) := by kernel_rfl
def us_xslices_BinarySearch_string_string :=  (aI (aI (aI @u330_0 @u330_1) (aI @u330_2 (aI @u330_3 @u330_4))) (aI (aI @u330_5 @u330_6) (aI @u330_7 (aI @u330_8 @u330_9))))
abbrev b291_1 : X := (.seq (.reg [4] (.c (.q 13 [] (.mv (.t 6))) (.c (.q 4 [] (.mv (.t 13))) .nil))) .ret)
def t291_1 := b291_1
theorem u291_1 : vcK P t291_1 k e w = vcK P b291_1 k e w := rfl
abbrev b291_2 : X := (.seq (.reg [6] (.c (.q 8 [] (.mv (.t 0))) (.c (.q 9 [] (.mv (.t 1))) (.c (.e (some 10) [] (.call false 330 [(.t 8), (.t 9)])) (.c (.q 7 [] (.mv (.t 10))) (.c (.q 11 [] (.ext 0 (.t 7))) (.c (.q 12 [] (.ext 1 (.t 7))) (.c (.q 5 [] (.mv (.t 11))) (.c (.q 6 [] (.mv (.t 12))) .nil))))))))) t291_1)
def t291_2 := b291_2
theorem u291_2 : vcK P t291_2 k e w = vcK P b291_2 k e w := rfl
abbrev b291_0 : X := (.seq (.reg [0, 1] (.c (.q 4 [] (.mv (.c (.bool false)))) .nil)) t291_2)
def x_ihas := b291_0
theorem u291_0 : vcK P x_ihas k e w = vcK P b291_0 k e w := rfl
def r_ihas : List XO := [(.mv (.t 4))]
theorem c_ihas : convF Try.prog [147, 148, 152, 160, 162, 163, 170, 178, 206, 208, 210, 224, 233, 235, 236, 251, 264, 265, 268, 270, 287, 322] Try.f291 [([0, 1], []), ([6], []), ([4], [])] = some (x_ihas, r_ihas) := by kernel_rfl
def us_ihas :=  (aI @u291_0 (aI @u291_1 @u291_2))
abbrev b238_1 : X := (.cond (.t 7) .skip (.exit 0))
def t238_1 := b238_1
theorem u238_1 : vcK P t238_1 k e w = vcK P b238_1 k e w := rfl
abbrev b238_2 : X := (.cond (.t 19) (.seq (.reg [2] (.c (.q 2 [] (.mv (.c (.bool false)))) .nil)) .ret) .skip)
def t238_2 := b238_2
theorem u238_2 : vcK P t238_2 k e w = vcK P b238_2 k e w := rfl
abbrev b238_3 : X := (.reg [0, 3] (.c (.q 8 [] (.mv (.t 3))) (.c (.q 9 [] (.bin .add (.t 8) (.c (.int .i64 1)))) (.c (.q 3 [] (.mv (.t 9))) .nil))))
def t238_3 := b238_3
theorem u238_3 : vcK P t238_3 k e w = vcK P b238_3 k e w := rfl
abbrev b238_4 : X := (.seq (.blk 1 (.seq (.drw [0, 3, 19] (.c (.q 10 [] (.mv (.t 0))) (.c (.q 11 [] (.mv (.t 3))) (.c (.q 12 [] (.ia 1 (.t 10) (.t 11))) (.c (.q 13 [] (.ld (.t 12))) (.c (.q 14 [] (.mv (.t 0))) (.c (.q 15 [] (.mv (.t 3))) (.c (.q 16 [] (.bin .sub (.t 15) (.c (.int .i64 1)))) (.c (.q 17 [] (.ia 1 (.t 14) (.t 16))) (.c (.q 18 [] (.ld (.t 17))) (.c (.q 19 [] (.bin .leq (.t 13) (.t 18))) .nil))))))))))) t238_2)) t238_3)
def t238_4 := b238_4
theorem u238_4 : vcK P t238_4 k e w = vcK P b238_4 k e w := rfl
abbrev b238_5 : X := (.seq (.seq (.reg [0, 3, 7] (.c (.q 4 [] (.mv (.t 3))) (.c (.q 5 [] (.mv (.t 0))) (.c (.q 6 [] (.lens (.t 5))) (.c (.q 7 [] (.bin .lss (.t 4) (.t 6))) .nil))))) t238_1) t238_4)
def t238_5 := b238_5
theorem u238_5 : vcK P t238_5 k e w = vcK P b238_5 k e w := rfl
abbrev b238_6 : X := (.blk 0 (.loop [3] [0] t238_5))
def t238_6 := b238_6
theorem u238_6 : vcK P t238_6 k e w = vcK P b238_6 k e w := rfl
abbrev b238_7 : X := (.seq (.reg [2] (.c (.q 2 [] (.mv (.c (.bool true)))) .nil)) .ret)
def t238_7 := b238_7
theorem u238_7 : vcK P t238_7 k e w = vcK P b238_7 k e w := rfl
abbrev b238_8 : X := (.seq (.seq (.reg [0, 3] (.c (.q 3 [] (.mv (.c (.int .i64 1)))) .nil)) t238_6) t238_7)
def t238_8 := b238_8
theorem u238_8 : vcK P t238_8 k e w = vcK P b238_8 k e w := rfl
abbrev b238_0 : X := (.seq (.reg [0] (.c (.q 2 [] (.mv (.c (.bool false)))) .nil)) t238_8)
def x_iincreasing := b238_0
theorem u238_0 : vcK P x_iincreasing k e w = vcK P b238_0 k e w := rfl
def r_iincreasing : List XO := [(.mv (.t 2))]
theorem c_iincreasing : convF Try.prog [147, 148, 152, 160, 162, 163, 170, 178, 206, 208, 210, 224, 233, 235, 236, 251, 264, 265, 268, 270, 287, 322] Try.f238 [([0], []), ([0, 3], []), ([3], [0]), ([0, 3, 7], []), ([0, 3, 19], []), ([2], []), ([0, 3], []), ([2], [])] = some (x_iincreasing, r_iincreasing) := by kernel_rfl
def us_iincreasing :=  (aI (aI (aI @u238_0 @u238_1) (aI @u238_2 @u238_3)) (aI (aI @u238_4 @u238_5) (aI @u238_6 (aI @u238_7 @u238_8))))
end

theorem blk_raw {w : World} {g : Nat} {cur : List Value} {E : TypeId} (h : Blk w g cur E) : ∃ fz : Nat × Nat, w.heap[g]? = some (.cells ⟨cur⟩ E fz) ∧ (fz = (0, 0) ∨ cur.length ≤ fz.1) := h
theorem holds_own {w : World} {g : Nat} {cur : List Value} {E : TypeId} {l : List Bs} (h : Blk w g cur E) (ht : cur.take l.length = l.flatMap fS) : Go.Sort.Holds encStr w g 0 l.toArray := by
  intro j hj
  have hj' : j < l.length := by simpa using hj
  have e : cur[j]? = some (S (l.getD j [])) := by
    have h1 : (cur.take l.length)[j]? = (l.flatMap fS)[j]? := by rw [ht]
    rw [List.getElem?_take_of_lt hj'] at h1
    rw [h1]
    have := flat_getD (f := fS) fS_len [] l j 0 hj' (by omega)
    have hl := flat_len (f := fS) fS_len l
    rw [Nat.mul_one, Nat.add_zero, List.getD_eq_getElem?_getD, List.getElem?_eq_getElem (by omega)] at this
    rw [List.getElem?_eq_getElem (by omega)]
    exact congrArg some this
  have hjc : j < cur.length := (List.getElem?_eq_some_iff.1 e).1
  rw [Nat.zero_add]
  refine ⟨?_, h.frozen j hjc⟩
  rw [h.cell, e, List.getD_eq_getElem?_getD, List.getElem?_eq_getElem hj']
  simp [hj']; rfl
theorem xslices_Sort_string_string_ok {B : Nat} (v : Value) (l : List Bs) (hl : l.length ≤ 1000000000) (hv : v ≠ .slice none 0 0) (w : World) (h : Own fS 1 9 B w v l) :
    CallsV Try.prog 206 [v] w (fun _ w' => Own fS 1 9 B w' v (srt l) ∧ w.grownBy w' v.ownBlock) := by
  rcases h.2 with ⟨e, _⟩ | ⟨g, cap, cur, rfl, hB, hb, hle, hcm, hcl, hct⟩
  · exact absurd e hv
  · rw [Nat.mul_one] at hcl hct
    refine Calls.mono (Try.slices_Sort_string g 0 cap l w (holds_own hb hct) hb.lt (by omega)) ?_
    rintro e w' ⟨rfl, n, os, rfl⟩
    obtain ⟨fz, hr, hfz⟩ := blk_raw hb
    have hsl : (srt l).length = l.length := srt_len l
    refine ⟨_, rfl, ⟨fS_len, .inr ⟨g, cap, (Go.Sort.putCells encStr 0 (srt l).toArray ⟨cur⟩).toList, by rw [hsl], hB, ⟨fz, heap_sorted _ hr, ?_⟩, by rw [hsl]; exact hle, hcm, ?_, ?_⟩⟩, grownBy_sorted _⟩
    · rcases hfz with h0 | h0
      · exact .inl h0
      · exact .inr (by simpa [Go.Sort.putCells] using h0)
    · simpa [Go.Sort.putCells] using hcl
    · rw [Nat.mul_one]
      have := take_putCells ⟨cur⟩ (srt l) (by simp [hsl]; omega)
      rw [this]
      induction srt l with
      | nil => rfl
      | cons a l ih => rw [List.map_cons, List.flatMap_cons, ih]; rfl
theorem head_cons {l : List Bs} (h : 0 < l.length) : l = l.getD 0 [] :: l.drop 1 := by
  cases l with
  | nil => simp at h
  | cons a l => rfl
/-- A list of texts as the reference sorts it. -/
theorem sl6Sort_ok : ∀ (n : Nat) (l : List Bs) (v : Value), l.length ≤ n → n ≤ 1000000 → ∀ w, Sq fS 1 w v l → Fn 230 [v] w (fun r w' => Own fS 1 9 w.heap.size w' r (srt l)) := by
  intro n
  induction n with
  | zero =>
    intro l v hl hn w h
    (refine callsV_of mix Try.func230 c_sl6Sort ?_; simp only [↓vsd, vsn, gW, qd, qv, ev, pick, argE, zipE, ne_eq, eq_self, forall_const, implies_true, if_true, if_false, reduceIte, reduceCtorEq, Nat.reduceEqDiff, Nat.reduceAdd, Nat.reduceLT, ↓us_sl6Sort, r_sl6Sort])
    refine m_call (sl1OwnS_ok v l (by omega) _ h) ?_
    rintro x w1 hx1 ho1
    have h2 : (l.length : Int) < 2 := by omega
    simp only [↓vsd, vsn, gW, qd, qv, ev, pick, argE, zipE, ne_eq, eq_self, forall_const, implies_true, if_true, if_false, reduceIte, reduceCtorEq, Nat.reduceEqDiff, Nat.reduceAdd, Nat.reduceLT, ↓us_sl6Sort, r_sl6Sort, ho1.sq.facts, h2]
    exact ⟨hx1, ho1.to (srt_small (by omega))⟩
  | succ n ih =>
    intro l v hl hn w h
    (refine callsV_of mix Try.func230 c_sl6Sort ?_; simp only [↓vsd, vsn, gW, qd, qv, ev, pick, argE, zipE, ne_eq, eq_self, forall_const, implies_true, if_true, if_false, reduceIte, reduceCtorEq, Nat.reduceEqDiff, Nat.reduceAdd, Nat.reduceLT, ↓us_sl6Sort, r_sl6Sort])
    refine m_call (sl1OwnS_ok v l (by omega) _ h) ?_
    rintro x w1 hx1 ho1
    by_cases h2 : (l.length : Int) < 2
    · simp only [↓vsd, vsn, gW, qd, qv, ev, pick, argE, zipE, ne_eq, eq_self, forall_const, implies_true, if_true, if_false, reduceIte, reduceCtorEq, Nat.reduceEqDiff, Nat.reduceAdd, Nat.reduceLT, ↓us_sl6Sort, r_sl6Sort, ho1.sq.facts, h2]
      exact ⟨hx1, ho1.to (srt_small (by omega))⟩
    · have hd : ((l.length : Nat) : Int).tdiv 2 = ((l.length / 2 : Nat) : Int) := rfl
      obtain ⟨hh1, hh2, hh3⟩ := ho1.head .i64 (l.length / 2) (by omega)
      obtain ⟨ht1, ht2⟩ := ho1.sq.tail .i64 (l.length / 2) (by omega)
      simp only [↓vsd, vsn, gW, qd, qv, ev, pick, argE, zipE, ne_eq, eq_self, forall_const, implies_true, if_true, if_false, reduceIte, reduceCtorEq, Nat.reduceEqDiff, Nat.reduceAdd, Nat.reduceLT, ↓us_sl6Sort, r_sl6Sort, ho1.sq.facts, h2, hd, hh1, ht1]
      have hI2 : inR .i64 ((l.length / 2 : Nat) : Int) := inR_i64 (by omega)
      have hxd : Ext w1 w1.drew := dr (Ext.refl _)
      refine ⟨⟨by decide, hI2⟩, ⟨by decide, hI2⟩, m_call (ih _ _ (by rw [List.length_take]; omega) (by omega) _ (hh2.sq.ext hxd)) ?_⟩
      rintro xa w2 hx2 hoa
      simp only [↓vsd, vsn, gW, qd, qv, ev, pick, argE, zipE, ne_eq, eq_self, forall_const, implies_true, if_true, if_false, reduceIte, reduceCtorEq, Nat.reduceEqDiff, Nat.reduceAdd, Nat.reduceLT, ↓us_sl6Sort, r_sl6Sort]
      refine m_call (ih _ _ (by rw [List.length_drop]; omega) (by omega) _ ((ht2.ext hxd).ext hx2)) ?_
      rintro xb w3 hx3 hob
      simp only [↓vsd, vsn, gW, qd, qv, ev, pick, argE, zipE, ne_eq, eq_self, forall_const, implies_true, if_true, if_false, reduceIte, reduceCtorEq, Nat.reduceEqDiff, Nat.reduceAdd, Nat.reduceLT, ↓us_sl6Sort, r_sl6Sort]
      have hx13 : Ext w1 w3 := (ud hx2).trans hx3
      refine m_upto l.length (fun k vs w' => ∃ ua ub x La Lb A, vs = [ua, ub, x] ∧ Sq fS 1 w3 ua La ∧ Sq fS 1 w3 ub Lb ∧ Own fS 1 9 w3.heap.size w' x A ∧ Ext w3 w' ∧ Mrg l A La Lb ∧ A.length = k) ⟨xa, xb, _, _, _, [], rfl, (hoa.ext hx3).sq, hob.sq, Own.nil fS_len, Ext.refl _, ⟨srt_sorted _, srt_sorted _, List.Pairwise.nil, by simp, ?_⟩, rfl⟩ ?_
      · rw [List.nil_append]
        refine ((srt_perm _).append (srt_perm _)).trans ?_
        rw [List.take_append_drop]
      · rintro k vs w4 hk ⟨ua, ub, x4, La, Lb, A, rfl, hqa, hqb, hoA, hx4, hM, rfl⟩
        have hqa4 := hqa.ext hx4
        have hqb4 := hqb.ext hx4
        have hpl := hM.len
        by_cases hc : 0 < La.length ∧ 0 < Lb.length
        · have ha0 := hqa4.at0 [] hc.1
          have hb0 := hqb4.at0 [] hc.2
          have eA := head_cons hc.1
          have eB := head_cons hc.2
          obtain ⟨ta1, ta2⟩ := hqa.tail .i64 1 (by omega)
          obtain ⟨tb1, tb2⟩ := hqb.tail .i64 1 (by omega)
          rw [Int.natCast_one] at ta1 ta2 tb1 tb2
          generalize La.getD 0 [] = a at *
          generalize Lb.getD 0 [] = b at *
          have hcA : 0 < (La.length : Int) := by omega
          have hcB : 0 < (Lb.length : Int) := by omega
          have hlt : A.length < l.length := by rw [← hpl]; omega
          by_cases hb : Op.bytesLess b a = true
          · have hba : b ≤ a := List.le_of_lt (by rw [less_lt] at hb; simpa using hb)
            simp only [↓vsd, vsn, gW, qd, qv, ev, pick, argE, zipE, ne_eq, eq_self, forall_const, implies_true, if_true, if_false, reduceIte, reduceCtorEq, Nat.reduceEqDiff, Nat.reduceAdd, Nat.reduceLT, ↓us_sl6Sort, r_sl6Sort, hqa4.facts, hqb4.facts, ha0, hb0, hcA, hcB, hb, ta1, tb1]
            refine ⟨by omega, by omega, by omega, m_bsl (one_el rfl) ?_⟩
            rintro b5 w5 hb5 hblk5 hx5 hs5
            have hx5 : Ext w4 w5 := by first | exact hx5 | exact ud hx5 | exact ud (ud hx5)
            simp only [↓vsd, vsn, gW, qd, qv, ev, pick, argE, zipE, ne_eq, eq_self, forall_const, implies_true, if_true, if_false, reduceIte, reduceCtorEq, Nat.reduceEqDiff, Nat.reduceAdd, Nat.reduceLT, ↓us_sl6Sort, r_sl6Sort]
            refine m_app (hoA.ext hx5) (Sq.one fS_len hblk5 rfl) fS_one (by decide) (by simp; omega) (by decide) (Nat.le_trans hx4.size hx5.size) ?_
            rintro x6 w6 ho6 hg6
            have hx6 := (hoA.ext hx5).grown (hx4.trans hx5) (Nat.le_refl _) hg6
            simp only [↓vsd, vsn, gW, qd, qv, ev, pick, argE, zipE, ne_eq, eq_self, forall_const, implies_true, if_true, if_false, reduceIte, reduceCtorEq, Nat.reduceEqDiff, Nat.reduceAdd, Nat.reduceLT, ↓us_sl6Sort, r_sl6Sort, hqb4.facts, tb1]
            exact UpTo.next hlt ⟨ua, _, x6, La, _, _, rfl, hqa, tb2, ho6, hx6, eA ▸ (Mrg.right (eA ▸ eB ▸ hM) hba), by simp⟩
          · have hab : a ≤ b := by rw [less_lt] at hb; exact List.not_lt.1 (by simpa using hb)
            simp only [↓vsd, vsn, gW, qd, qv, ev, pick, argE, zipE, ne_eq, eq_self, forall_const, implies_true, if_true, if_false, reduceIte, reduceCtorEq, Nat.reduceEqDiff, Nat.reduceAdd, Nat.reduceLT, ↓us_sl6Sort, r_sl6Sort, hqa4.facts, hqb4.facts, ha0, hb0, hcA, hcB, hb, ta1, tb1]
            refine ⟨by omega, by omega, by omega, m_bsl (one_el rfl) ?_⟩
            rintro b5 w5 hb5 hblk5 hx5 hs5
            have hx5 : Ext w4 w5 := by first | exact hx5 | exact ud hx5 | exact ud (ud hx5)
            simp only [↓vsd, vsn, gW, qd, qv, ev, pick, argE, zipE, ne_eq, eq_self, forall_const, implies_true, if_true, if_false, reduceIte, reduceCtorEq, Nat.reduceEqDiff, Nat.reduceAdd, Nat.reduceLT, ↓us_sl6Sort, r_sl6Sort]
            refine m_app (hoA.ext hx5) (Sq.one fS_len hblk5 rfl) fS_one (by decide) (by simp; omega) (by decide) (Nat.le_trans hx4.size hx5.size) ?_
            rintro x6 w6 ho6 hg6
            have hx6 := (hoA.ext hx5).grown (hx4.trans hx5) (Nat.le_refl _) hg6
            simp only [↓vsd, vsn, gW, qd, qv, ev, pick, argE, zipE, ne_eq, eq_self, forall_const, implies_true, if_true, if_false, reduceIte, reduceCtorEq, Nat.reduceEqDiff, Nat.reduceAdd, Nat.reduceLT, ↓us_sl6Sort, r_sl6Sort, hqa4.facts, ta1]
            exact UpTo.next hlt ⟨_, ub, x6, _, Lb, _, rfl, ta2, hqb, ho6, hx6, eB ▸ (Mrg.left (eA ▸ eB ▸ hM) hab), by simp⟩
        · have h0 : La = [] ∨ Lb = [] := by
            rcases Nat.eq_zero_or_pos La.length with h | h
            · exact .inl (List.length_eq_zero_iff.1 h)
            · rcases Nat.eq_zero_or_pos Lb.length with h' | h'
              · exact .inr (List.length_eq_zero_iff.1 h')
              · exact absurd ⟨h, h'⟩ hc
          have hcI : ¬ (0 < (La.length : Int) ∧ 0 < (Lb.length : Int)) := by omega
          simp only [↓vsd, vsn, gW, qd, qv, ev, pick, argE, zipE, ne_eq, eq_self, forall_const, implies_true, if_true, if_false, reduceIte, reduceCtorEq, Nat.reduceEqDiff, Nat.reduceAdd, Nat.reduceLT, ↓us_sl6Sort, r_sl6Sort, hqa4.facts, hqb4.facts, hcI]
          refine m_app hoA hqa4 fS_one (by decide) (by omega) (by decide) hx4.size ?_
          rintro x5 w5 ho5 hg5
          have hx5 := hoA.grown hx4 (Nat.le_refl _) hg5
          simp only [↓vsd, vsn, gW, qd, qv, ev, pick, argE, zipE, ne_eq, eq_self, forall_const, implies_true, if_true, if_false, reduceIte, reduceCtorEq, Nat.reduceEqDiff, Nat.reduceAdd, Nat.reduceLT, ↓us_sl6Sort, r_sl6Sort]
          refine m_app ho5 (hqb.ext hx5) fS_one (by decide) (by rw [List.length_append]; omega) (by decide) hx5.size ?_
          rintro x6 w6 ho6 hg6
          have hx6 := ho5.grown hx5 (Nat.le_refl _) hg6
          simp only [↓vsd, vsn, gW, qd, qv, ev, pick, argE, zipE, ne_eq, eq_self, forall_const, implies_true, if_true, if_false, reduceIte, reduceCtorEq, Nat.reduceEqDiff, Nat.reduceAdd, Nat.reduceLT, ↓us_sl6Sort, r_sl6Sort]
          exact ⟨(hx1.trans hx13).trans hx6, (ho6.mono (hx1.trans hx13).size).to (hM.done h0)⟩
theorem own_ne {B : Nat} {E : TypeId} {w : World} {v : Value} {l : List Bs} (h : Own fS 1 E B w v l) (hl : 0 < l.length) : v ≠ .slice none 0 0 := by
  rcases h.2 with ⟨_, rfl⟩ | ⟨g, cap, cur, rfl, _⟩
  · simp at hl
  · exact fun e => by cases e
theorem isorted_ok (v : Value) (l : List Bs) (hl : 0 < l.length ∧ l.length ≤ 1000000000) (w : World) (h : Sq fS 1 w v l) : Fn 227 [v] w (fun r w' => Own fS 1 9 w.heap.size w' r (srt l)) := by
  (refine callsV_of mix Try.func227 c_isorted ?_; simp only [↓vsd, vsn, gW, qd, qv, ev, pick, argE, zipE, ne_eq, eq_self, forall_const, implies_true, if_true, if_false, reduceIte, reduceCtorEq, Nat.reduceEqDiff, Nat.reduceAdd, Nat.reduceLT, ↓us_isorted, r_isorted])
  refine m_call (xslices_Clone_string_string_ok v l hl.2 _ h) ?_
  rintro x w1 hx1 ho1
  have hx1 : Ext w w1 := by first | exact hx1 | exact ud hx1 | exact ud (ud hx1)
  simp only [↓vsd, vsn, gW, qd, qv, ev, pick, argE, zipE, ne_eq, eq_self, forall_const, implies_true, if_true, if_false, reduceIte, reduceCtorEq, Nat.reduceEqDiff, Nat.reduceAdd, Nat.reduceLT, ↓us_isorted, r_isorted]
  refine m_callw (by first | exact .inl rfl | exact .inr rfl) (xslices_Sort_string_string_ok x l hl.2 (own_ne ho1 hl.1) _ ho1) ?_
  rintro _ w2 ⟨ho2, hg2⟩
  simp only [↓vsd, vsn, gW, qd, qv, ev, pick, argE, zipE, ne_eq, eq_self, forall_const, implies_true, if_true, if_false, reduceIte, reduceCtorEq, Nat.reduceEqDiff, Nat.reduceAdd, Nat.reduceLT, ↓us_isorted, r_isorted]
  exact ⟨ho1.grown hx1 (Nat.le_refl _) hg2, ho2⟩
theorem xslices_isNaN_string_ok (a : Bs) (w : World) : Fn 360 [S a] w (fun r _ => r = .bool false) := by
  (refine callsV_of mix Try.func360 c_xslices_isNaN_string ?_; simp only [↓vsd, vsn, gW, qd, qv, ev, pick, argE, zipE, ne_eq, eq_self, forall_const, implies_true, if_true, if_false, reduceIte, reduceCtorEq, Nat.reduceEqDiff, Nat.reduceAdd, Nat.reduceLT, ↓us_xslices_isNaN_string, r_xslices_isNaN_string])
  exact Ext.refl _
theorem xcmp_isNaN_string_ok (a : Bs) (w : World) : Fn 352 [S a] w (fun r _ => r = .bool false) := by
  (refine callsV_of mix Try.func352 c_xcmp_isNaN_string ?_; simp only [↓vsd, vsn, gW, qd, qv, ev, pick, argE, zipE, ne_eq, eq_self, forall_const, implies_true, if_true, if_false, reduceIte, reduceCtorEq, Nat.reduceEqDiff, Nat.reduceAdd, Nat.reduceLT, ↓us_xcmp_isNaN_string, r_xcmp_isNaN_string])
  exact Ext.refl _
theorem xcmp_Less_string_ok (a b : Bs) (w : World) : Fn 315 [S a, S b] w (fun r _ => r = .bool (Op.bytesLess a b)) := by
  (refine callsV_of mix Try.func315 c_xcmp_Less_string ?_; simp only [↓vsd, vsn, gW, qd, qv, ev, pick, argE, zipE, ne_eq, eq_self, forall_const, implies_true, if_true, if_false, reduceIte, reduceCtorEq, Nat.reduceEqDiff, Nat.reduceAdd, Nat.reduceLT, ↓us_xcmp_Less_string, r_xcmp_Less_string])
  refine m_call (xcmp_isNaN_string_ok a _) ?_
  rintro _ w1 hx1 rfl
  simp only [↓vsd, vsn, gW, qd, qv, ev, pick, argE, zipE, ne_eq, eq_self, forall_const, implies_true, if_true, if_false, reduceIte, reduceCtorEq, Nat.reduceEqDiff, Nat.reduceAdd, Nat.reduceLT, ↓us_xcmp_Less_string, r_xcmp_Less_string]
  exact hx1
theorem mid_u {i j : Nat} (h : i + j ≤ 4000000000) : (((i : Int) + j) % 18446744073709551616).fdiv (2 ^ min 1 IntKind.u64.bits) = (((i + j) / 2 : Nat) : Int) := by
  have e1 : ((i : Int) + j) % 18446744073709551616 = ((i + j : Nat) : Int) := by omega
  have e2 : (2 : Int) ^ min 1 IntKind.u64.bits = 2 := by decide
  rw [e1, e2, Int.fdiv_eq_ediv_of_nonneg _ (by decide)]
  rfl
theorem xslices_BinarySearch_string_string_ok (v : Value) (l : List Bs) (r : Bs) (hl : l.length ≤ 1000000000) (hs : l.Pairwise (· ≤ ·)) (w : World) (h : Sq fS 1 w v l) : Fn 330 [v, S r] w (fun x _ => ∃ i : Int, x = .tuple ⟨[.int .i64 i, .bool (decide (r ∈ l))]⟩) := by
  (refine callsV_of mix Try.func330 c_xslices_BinarySearch_string_string ?_; simp only [↓vsd, vsn, gW, qd, qv, ev, pick, argE, zipE, ne_eq, eq_self, forall_const, implies_true, if_true, if_false, reduceIte, reduceCtorEq, Nat.reduceEqDiff, Nat.reduceAdd, Nat.reduceLT, ↓us_xslices_BinarySearch_string_string, r_xslices_BinarySearch_string_string])
  simp only [↓vsd, vsn, gW, qd, qv, ev, pick, argE, zipE, ne_eq, eq_self, forall_const, implies_true, if_true, if_false, reduceIte, reduceCtorEq, Nat.reduceEqDiff, Nat.reduceAdd, Nat.reduceLT, ↓us_xslices_BinarySearch_string_string, r_xslices_BinarySearch_string_string, h.facts]
  refine m_upto l.length (fun k vs w' => ∃ i j : Nat, vs = [.int .i64 i, .int .i64 j] ∧ i ≤ j ∧ j ≤ l.length ∧ k + (j - i) ≤ l.length ∧ (∀ p < i, l.getD p [] < r) ∧ (∀ p, j ≤ p → p < l.length → r ≤ l.getD p []) ∧ Ext w w') ⟨0, l.length, rfl, by omega, by omega, by omega, by omega, fun p h1 h2 => by omega, Ext.refl _⟩ ?_
  rintro k vs w1 hk ⟨i, j, rfl, hij, hj, hkj, hlo, hhi, hx1⟩
  by_cases hlt : i < j
  · have hltI : (i : Int) < (j : Int) := by omega
    have hI2 : inR .i64 ((i : Int) + j) := inR_i64 (by omega)
    have hq1 := h.ext hx1
    have hm := mid_u (i := i) (j := j) (by omega)
    have hml : (i + j) / 2 < l.length := by omega
    have hm1 : i ≤ (i + j) / 2 := by omega
    have hm2 : (i + j) / 2 < j := by omega
    simp only [↓vsd, vsn, gW, qd, qv, ev, pick, argE, zipE, ne_eq, eq_self, forall_const, implies_true, if_true, if_false, reduceIte, reduceCtorEq, Nat.reduceEqDiff, Nat.reduceAdd, Nat.reduceLT, ↓us_xslices_BinarySearch_string_string, r_xslices_BinarySearch_string_string, hltI, hm, hq1.facts]
    generalize (i + j) / 2 = q at *
    have a1 := hq1.at1 [] hml
    simp only [↓vsd, vsn, gW, qd, qv, ev, pick, argE, zipE, ne_eq, eq_self, forall_const, implies_true, if_true, if_false, reduceIte, reduceCtorEq, Nat.reduceEqDiff, Nat.reduceAdd, Nat.reduceLT, ↓us_xslices_BinarySearch_string_string, r_xslices_BinarySearch_string_string, a1]
    refine ⟨hI2, by omega, inR_i64 (by omega), by omega, m_call (xcmp_Less_string_ok _ _ _) ?_⟩
    rintro _ w2 hx2 rfl
    simp only [↓vsd, vsn, gW, qd, qv, ev, pick, argE, zipE, ne_eq, eq_self, forall_const, implies_true, if_true, if_false, reduceIte, reduceCtorEq, Nat.reduceEqDiff, Nat.reduceAdd, Nat.reduceLT, ↓us_xslices_BinarySearch_string_string, r_xslices_BinarySearch_string_string]
    refine ⟨fun hb => ⟨inR_i64 (by omega), UpTo.next (by omega) ⟨q + 1, j, by simp, by omega, by omega, by omega, fun p hp => ?_, hhi, hx1.trans hx2⟩⟩, fun hb => UpTo.next (by omega) ⟨i, q, rfl, by omega, by omega, by omega, hlo, fun p hp hpl => ?_, hx1.trans hx2⟩⟩
    · rw [less_lt] at hb
      have hb : l.getD q [] < r := by simpa using hb
      by_cases hpq : p = q
      · rw [hpq]; exact hb
      · exact List.lt_of_le_of_lt (sorted_get hs (by omega) hml) hb
    · rw [less_lt] at hb
      have hb : r ≤ l.getD q [] := List.not_lt.1 (by simpa using hb)
      exact List.le_trans hb (sorted_get hs hp hpl)
  · obtain rfl : i = j := by omega
    have hltI : ¬ (i : Int) < (i : Int) := by omega
    have hq1 := h.ext hx1
    have hf := sorted_find hs hlo hhi hj
    by_cases hil : i < l.length
    · have hilI : (i : Int) < l.length := by omega
      have a1 := hq1.at1 [] hil
      by_cases he : l.getD i [] = r
      · have hd : decide (r ∈ l) = true := decide_eq_true (hf.2 ⟨hil, he⟩)
        simp only [↓vsd, vsn, gW, qd, qv, ev, pick, argE, zipE, ne_eq, eq_self, forall_const, implies_true, if_true, if_false, reduceIte, reduceCtorEq, Nat.reduceEqDiff, Nat.reduceAdd, Nat.reduceLT, ↓us_xslices_BinarySearch_string_string, r_xslices_BinarySearch_string_string, hltI, hilI, hq1.facts, a1, he, hd]
        exact ⟨by omega, hx1, _, rfl⟩
      · have hd : decide (r ∈ l) = false := decide_eq_false fun hh => he (hf.1 hh).2
        simp only [↓vsd, vsn, gW, qd, qv, ev, pick, argE, zipE, ne_eq, eq_self, forall_const, implies_true, if_true, if_false, reduceIte, reduceCtorEq, Nat.reduceEqDiff, Nat.reduceAdd, Nat.reduceLT, ↓us_xslices_BinarySearch_string_string, r_xslices_BinarySearch_string_string, hltI, hilI, hq1.facts, a1, he, hd]
        refine ⟨by omega, by omega, m_call (xslices_isNaN_string_ok _ _) ?_⟩
        rintro _ w2 hx2 rfl
        simp only [↓vsd, vsn, gW, qd, qv, ev, pick, argE, zipE, ne_eq, eq_self, forall_const, implies_true, if_true, if_false, reduceIte, reduceCtorEq, Nat.reduceEqDiff, Nat.reduceAdd, Nat.reduceLT, ↓us_xslices_BinarySearch_string_string, r_xslices_BinarySearch_string_string]
        exact ⟨hx1.trans hx2, _, rfl⟩
    · have hilI : ¬ (i : Int) < l.length := by omega
      have hd : decide (r ∈ l) = false := decide_eq_false fun hh => hil (hf.1 hh).1
      simp only [↓vsd, vsn, gW, qd, qv, ev, pick, argE, zipE, ne_eq, eq_self, forall_const, implies_true, if_true, if_false, reduceIte, reduceCtorEq, Nat.reduceEqDiff, Nat.reduceAdd, Nat.reduceLT, ↓us_xslices_BinarySearch_string_string, r_xslices_BinarySearch_string_string, hltI, hilI, hq1.facts, hd]
      exact ⟨hx1, _, rfl⟩
theorem ihas_ok (v : Value) (l : List Bs) (r : Bs) (hl : l.length ≤ 1000000000) (hs : l.Pairwise (· ≤ ·)) (w : World) (h : Sq fS 1 w v l) : Fn 291 [v, S r] w (fun x _ => x = .bool (decide (r ∈ l))) := by
  (refine callsV_of mix Try.func291 c_ihas ?_; simp only [↓vsd, vsn, gW, qd, qv, ev, pick, argE, zipE, ne_eq, eq_self, forall_const, implies_true, if_true, if_false, reduceIte, reduceCtorEq, Nat.reduceEqDiff, Nat.reduceAdd, Nat.reduceLT, ↓us_ihas, r_ihas])
  refine m_call (xslices_BinarySearch_string_string_ok v l r hl hs _ h) ?_
  rintro _ w1 hx1 ⟨i, rfl⟩
  simp only [↓vsd, vsn, gW, qd, qv, ev, pick, argE, zipE, ne_eq, eq_self, forall_const, implies_true, if_true, if_false, reduceIte, reduceCtorEq, Nat.reduceEqDiff, Nat.reduceAdd, Nat.reduceLT, ↓us_ihas, r_ihas]
  exact hx1
theorem iincreasing_ok (v : Value) (l : List Bs) (hl : l.length ≤ 1000000000) (w : World) (h : Sq fS 1 w v l) : Fn 238 [v] w (fun x _ => x = .bool (decide (Rise l))) := by
  (refine callsV_of mix Try.func238 c_iincreasing ?_; simp only [↓vsd, vsn, gW, qd, qv, ev, pick, argE, zipE, ne_eq, eq_self, forall_const, implies_true, if_true, if_false, reduceIte, reduceCtorEq, Nat.reduceEqDiff, Nat.reduceAdd, Nat.reduceLT, ↓us_iincreasing, r_iincreasing])
  refine m_upto l.length (fun k vs w' => vs = [.int .i64 ((k : Int) + 1)] ∧ (∀ q, q + 1 ≤ k → q + 1 < l.length → l.getD q [] < l.getD (q + 1) []) ∧ Ext w w') ⟨rfl, fun q h1 => by omega, Ext.refl _⟩ ?_
  rintro k vs w1 hk ⟨rfl, hup, hx1⟩
  have hq1 := h.ext hx1
  by_cases hlt : k + 1 < l.length
  · have hltI : (k : Int) + 1 < l.length := by omega
    have a1 := hq1.at1 [] (i := k + 1) hlt
    have a2 := hq1.at1 [] (i := k) (by omega)
    simp only [Int.natCast_add, Int.natCast_one] at a1
    have e1 : (k : Int) + 1 - 1 = k := by omega
    simp only [↓vsd, vsn, gW, qd, qv, ev, pick, argE, zipE, ne_eq, eq_self, forall_const, implies_true, if_true, if_false, reduceIte, reduceCtorEq, Nat.reduceEqDiff, Nat.reduceAdd, Nat.reduceLT, ↓us_iincreasing, r_iincreasing, hq1.facts, hltI, a1, a2, e1]
    refine ⟨by omega, inR_i64 (by omega), by omega, fun hb => ⟨hx1, ?_⟩, fun hb => ⟨inR_i64 (by omega), UpTo.next (by omega) ⟨by simp, fun q h1 h2 => ?_, by first | exact hx1 | exact dr hx1⟩⟩⟩
    · refine (decide_eq_false fun hr => ?_).symm
      have hlt2 := rise_get hr k (k + 1) (by omega) hlt
      rcases hb with hb | hb
      · rw [less_lt] at hb
        exact absurd (List.lt_trans hlt2 (by simpa using hb)) (List.lt_irrefl _)
      · rw [hb] at hlt2; exact absurd hlt2 (List.lt_irrefl _)
    · by_cases hqk : q = k
      · subst hqk
        have h3 := hb.1
        rw [less_lt] at h3
        rcases List.le_iff_lt_or_eq.1 (List.not_lt.1 (by simpa using h3)) with h4 | h4
        · exact h4
        · exact absurd h4.symm hb.2
      · exact hup q (by omega) h2
  · have hltI : ¬ (k : Int) + 1 < l.length := by omega
    simp only [↓vsd, vsn, gW, qd, qv, ev, pick, argE, zipE, ne_eq, eq_self, forall_const, implies_true, if_true, if_false, reduceIte, reduceCtorEq, Nat.reduceEqDiff, Nat.reduceAdd, Nat.reduceLT, ↓us_iincreasing, r_iincreasing, hq1.facts, hltI]
    exact ⟨hx1, (decide_eq_true (rise_next fun q hq => hup q (by omega) hq)).symm⟩
end Go.Proofs.Ytnincmnkdjlndaa
