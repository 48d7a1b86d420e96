/-
  Repeats in a list, and the rows of two lists, of both sides.
  Conditions: none.
-/
import Derived.Test.YtnincmnkdjlndaaA73
set_option linter.unusedSimpArgs false
set_option linter.unusedVariables false
set_option linter.defProp false
namespace Go.Proofs.Ytnincmnkdjlndaa
open Go Go.RowKit
section
variable (P : Program) (k : KT) (e : Env) (w : World)
abbrev b180_1 : X := (.reg [0, 5, 12, 13, 14] (.c (.q 18 [] (.mv (.t 5))) (.c (.q 19 [] (.mv (.t 7))) (.c (.e none [] (.mup false .string (.t 18) (.t 19) (.c (.bool true)))) .nil))))
def t180_1 := b180_1
theorem u180_1 : vcK P t180_1 k e w = vcK P b180_1 k e w := rfl
abbrev b180_2 : X := (.reg [0, 5, 12, 13, 14] (.c (.q 20 [] (.bin .add (.t 14) (.c (.int .i64 1)))) (.c (.q 14 [] (.mv (.t 20))) .nil)))
def t180_2 := b180_2
theorem u180_2 : vcK P t180_2 k e w = vcK P b180_2 k e w := rfl
abbrev b180_3 : X := (.seq (.blk 1 (.seq (.reg [0, 5, 7, 12, 13, 14] (.c (.q 16 [] (.ia 1 (.t 12) (.t 14))) (.c (.q 17 [] (.ld (.t 16))) (.c (.q 7 [] (.mv (.t 17))) .nil)))) t180_1)) t180_2)
def t180_3 := b180_3
theorem u180_3 : vcK P t180_3 k e w = vcK P b180_3 k e w := rfl
abbrev b180_4 : X := (.seq (.cond (.t 15) .skip (.exit 0)) t180_3)
def t180_4 := b180_4
theorem u180_4 : vcK P t180_4 k e w = vcK P b180_4 k e w := rfl
abbrev b180_5 : X := (.seq (.reg [0, 5, 12, 13, 14, 15] (.c (.q 15 [] (.bin .lss (.t 14) (.t 13))) .nil)) t180_4)
def t180_5 := b180_5
theorem u180_5 : vcK P t180_5 k e w = vcK P b180_5 k e w := rfl
abbrev b180_6 : X := (.blk 0 (.loop [14] [0, 5, 12, 13] t180_5))
def t180_6 := b180_6
theorem u180_6 : vcK P t180_6 k e w = vcK P b180_6 k e w := rfl
abbrev b180_7 : X := (.cond (.t 30) (.reg [5, 8, 22, 23, 24] (.c (.q 31 [] (.mv (.t 8))) (.c (.q 32 [] (.mv (.t 10))) (.c (.e (some 33) [] (.bsl 9 1 [(.t 32)])) (.c (.e (some 34) [] (.app 24 9 1 16 [(S [])] 24 (.t 31) (.t 33))) (.c (.q 8 [] (.mv (.t 34))) .nil)))))) .skip)
def t180_7 := b180_7
theorem u180_7 : vcK P t180_7 k e w = vcK P b180_7 k e w := rfl
abbrev b180_8 : X := (.seq (.reg [5, 8, 10, 22, 23, 24, 30] (.c (.q 28 [] (.mv (.t 5))) (.c (.q 29 [] (.mv (.t 10))) (.c (.q 30 [] (.mlk false .string (.bool false) (.t 28) (.t 29))) .nil)))) t180_7)
def t180_8 := b180_8
theorem u180_8 : vcK P t180_8 k e w = vcK P b180_8 k e w := rfl
abbrev b180_9 : X := (.reg [5, 8, 22, 23, 24] (.c (.q 35 [] (.bin .add (.t 24) (.c (.int .i64 1)))) (.c (.q 24 [] (.mv (.t 35))) .nil)))
def t180_9 := b180_9
theorem u180_9 : vcK P t180_9 k e w = vcK P b180_9 k e w := rfl
abbrev b180_10 : X := (.seq (.blk 3 (.seq (.reg [5, 8, 10, 22, 23, 24] (.c (.q 26 [] (.ia 1 (.t 22) (.t 24))) (.c (.q 27 [] (.ld (.t 26))) (.c (.q 10 [] (.mv (.t 27))) .nil)))) t180_8)) t180_9)
def t180_10 := b180_10
theorem u180_10 : vcK P t180_10 k e w = vcK P b180_10 k e w := rfl
abbrev b180_11 : X := (.seq (.cond (.t 25) .skip (.exit 2)) t180_10)
def t180_11 := b180_11
theorem u180_11 : vcK P t180_11 k e w = vcK P b180_11 k e w := rfl
abbrev b180_12 : X := (.seq (.reg [5, 8, 22, 23, 24, 25] (.c (.q 25 [] (.bin .lss (.t 24) (.t 23))) .nil)) t180_11)
def t180_12 := b180_12
theorem u180_12 : vcK P t180_12 k e w = vcK P b180_12 k e w := rfl
abbrev b180_13 : X := (.blk 2 (.loop [8, 24] [5, 22, 23] t180_12))
def t180_13 := b180_13
theorem u180_13 : vcK P t180_13 k e w = vcK P b180_13 k e w := rfl
abbrev b180_14 : X := (.seq (.reg [4] (.c (.q 36 [] (.mv (.t 8))) (.c (.q 4 [] (.mv (.t 36))) .nil))) .ret)
def t180_14 := b180_14
theorem u180_14 : vcK P t180_14 k e w = vcK P b180_14 k e w := rfl
abbrev b180_15 : X := (.seq (.seq (.reg [5, 8, 22, 23, 24] (.c (.q 22 [] (.mv (.t 0))) (.c (.q 23 [] (.lens (.t 22))) (.c (.q 24 [] (.mv (.c (.int .i64 0)))) .nil)))) t180_13) t180_14)
def t180_15 := b180_15
theorem u180_15 : vcK P t180_15 k e w = vcK P b180_15 k e w := rfl
abbrev b180_16 : X := (.seq (.reg [0, 5, 8] (.c (.e (some 21) [] (.bsl 9 1 [])) (.c (.q 8 [] (.mv (.t 21))) .nil))) t180_15)
def t180_16 := b180_16
theorem u180_16 : vcK P t180_16 k e w = vcK P b180_16 k e w := rfl
abbrev b180_17 : X := (.seq (.seq (.reg [0, 5, 12, 13, 14] (.c (.q 12 [] (.mv (.t 1))) (.c (.q 13 [] (.lens (.t 12))) (.c (.q 14 [] (.mv (.c (.int .i64 0)))) .nil)))) t180_6) t180_16)
def t180_17 := b180_17
theorem u180_17 : vcK P t180_17 k e w = vcK P b180_17 k e w := rfl
abbrev b180_18 : X := (.seq (.reg [0, 1, 5] (.c (.e (some 11) [] .mkmap) (.c (.q 5 [] (.mv (.t 11))) .nil))) t180_17)
def t180_18 := b180_18
theorem u180_18 : vcK P t180_18 k e w = vcK P b180_18 k e w := rfl
abbrev b180_0 : X := (.seq (.reg [0, 1] (.c (.q 4 [] (.mv (.c (.slice none 0 0)))) .nil)) t180_18)
def x_imeeting := b180_0
theorem u180_0 : vcK P x_imeeting k e w = vcK P b180_0 k e w := rfl
def r_imeeting : List XO := [(.mv (.t 4))]
theorem c_imeeting : convF Try.prog [147, 148, 152, 160, 162, 163, 170, 178, 206, 208, 210, 224, 233, 235, 236, 251, 264, 265, 268, 270, 287, 322] Try.f180 [([0, 1], []), ([0, 1, 5], []), ([0, 5, 12, 13, 14], []), ([14], [0, 5, 12, 13]), ([0, 5, 12, 13, 14, 15], []), ([0, 5, 7, 12, 13, 14], []), ([0, 5, 12, 13, 14], []), ([0, 5, 12, 13, 14], []), ([0, 5, 8], []), ([5, 8, 22, 23, 24], []), ([8, 24], [5, 22, 23]), ([5, 8, 22, 23, 24, 25], []), ([5, 8, 10, 22, 23, 24], []), ([5, 8, 10, 22, 23, 24, 30], []), ([5, 8, 22, 23, 24], []), ([5, 8, 22, 23, 24], []), ([4], [])] = some (x_imeeting, r_imeeting) := by kernel_rfl
def us_imeeting :=  (aI (aI (aI (aI @u180_0 @u180_1) (aI @u180_2 @u180_3)) (aI (aI @u180_4 @u180_5) (aI @u180_6 (aI @u180_7 @u180_8)))) (aI (aI (aI @u180_9 @u180_10) (aI @u180_11 (aI @u180_12 @u180_13))) (aI (aI @u180_14 @u180_15) (aI @u180_16 (aI @u180_17 @u180_18)))))
abbrev b53_1 : X := (.cond (.t 34) (.seq (.reg [4, 5] (.c (.q 4 [] (.mv (.c (.slice none 0 0)))) (.c (.q 5 [] (.mv (.c (.bool false)))) .nil))) .ret) .skip)
def t53_1 := b53_1
theorem u53_1 : vcK P t53_1 k e w = vcK P b53_1 k e w := rfl
abbrev b53_2 : X := (.seq (.reg [4, 5] (.c (.q 35 [] (.mv (.t 0))) (.c (.q 36 [] (.mv (.t 1))) (.c (.e (some 37) [] (.call false 180 [(.t 35), (.t 36)])) (.c (.q 4 [] (.mv (.t 37))) (.c (.q 5 [] (.mv (.c (.bool true)))) .nil)))))) .ret)
def t53_2 := b53_2
theorem u53_2 : vcK P t53_2 k e w = vcK P b53_2 k e w := rfl
abbrev b53_3 : X := (.seq (.seq (.drw [0, 1, 34] (.c (.q 6 [] (.mv (.t 0))) (.c (.e (some 7) [] (.call false 115 [(.t 6)])) (.c (.q 8 [] (.not (.t 7))) (.c (.q 9 [] (.mv (.t 8))) (.c (.q 10 [(9, false)] (.mv (.t 1))) (.c (.e (some 11) [(9, false)] (.call false 115 [(.t 10)])) (.c (.q 12 [(9, false)] (.not (.t 11))) (.c (.q 13 [] (.pick (.t 9) (.c (.bool true)) (.t 12))) (.c (.q 14 [] (.mv (.t 13))) (.c (.q 15 [(14, false)] (.mv (.t 0))) (.c (.q 16 [(14, false)] (.lens (.t 15))) (.c (.q 17 [(14, false)] (.bin .gtr (.t 16) (.c (.int .i64 0)))) (.c (.q 18 [(14, false)] (.mv (.t 17))) (.c (.q 19 [(18, true), (14, false)] (.mv (.t 1))) (.c (.q 20 [(18, true), (14, false)] (.lens (.t 19))) (.c (.q 21 [(18, true), (14, false)] (.bin .gtr (.t 20) (.c (.int .i64 0)))) (.c (.q 22 [(14, false)] (.pick (.t 18) (.t 21) (.c (.bool false)))) (.c (.q 23 [(14, false)] (.mv (.t 22))) (.c (.q 24 [(23, true), (14, false)] (.mv (.t 0))) (.c (.q 25 [(23, true), (14, false)] (.ia 1 (.t 24) (.c (.int .i64 0)))) (.c (.q 26 [(23, true), (14, false)] (.ld (.t 25))) (.c (.q 27 [(23, true), (14, false)] (.len (.t 26))) (.c (.q 28 [(23, true), (14, false)] (.mv (.t 1))) (.c (.q 29 [(23, true), (14, false)] (.ia 1 (.t 28) (.c (.int .i64 0)))) (.c (.q 30 [(23, true), (14, false)] (.ld (.t 29))) (.c (.q 31 [(23, true), (14, false)] (.len (.t 30))) (.c (.q 32 [(23, true), (14, false)] (.bin .neq (.t 27) (.t 31))) (.c (.q 33 [(14, false)] (.pick (.t 23) (.t 32) (.c (.bool false)))) (.c (.q 34 [] (.pick (.t 14) (.c (.bool true)) (.t 33))) .nil)))))))))))))))))))))))))))))) t53_1) t53_2)
def t53_3 := b53_3
theorem u53_3 : vcK P t53_3 k e w = vcK P b53_3 k e w := rfl
abbrev b53_0 : X := (.seq (.reg [0, 1] (.c (.q 4 [] (.mv (.c (.slice none 0 0)))) (.c (.q 5 [] (.mv (.c (.bool false)))) .nil))) t53_3)
def x_iMeetIn := b53_0
theorem u53_0 : vcK P x_iMeetIn k e w = vcK P b53_0 k e w := rfl
def r_iMeetIn : List XO := [(.mv (.t 4)), (.mv (.t 5))]
theorem c_iMeetIn : convF Try.prog [147, 148, 152, 160, 162, 163, 170, 178, 206, 208, 210, 224, 233, 235, 236, 251, 264, 265, 268, 270, 287, 322] Try.f53 [([0, 1], []), ([0, 1, 34], []), ([4, 5], []), ([4, 5], [])] = some (x_iMeetIn, r_iMeetIn) := by kernel_rfl
def us_iMeetIn :=  (aI (aI @u53_0 @u53_1) (aI @u53_2 @u53_3))
abbrev b181_1 : X := (.cond (.t 15) (.seq (.reg [4] (.c (.q 4 [] (.mv (.c (.bool true)))) .nil)) .ret) .skip)
def t181_1 := b181_1
theorem u181_1 : vcK P t181_1 k e w = vcK P b181_1 k e w := rfl
abbrev b181_2 : X := (.seq (.reg [1, 7, 8, 9, 15] (.c (.q 13 [] (.mv (.t 6))) (.c (.q 14 [] (.mv (.t 1))) (.c (.q 15 [] (.bin .eql (.t 13) (.t 14))) .nil)))) t181_1)
def t181_2 := b181_2
theorem u181_2 : vcK P t181_2 k e w = vcK P b181_2 k e w := rfl
abbrev b181_3 : X := (.reg [1, 7, 8, 9] (.c (.q 16 [] (.bin .add (.t 9) (.c (.int .i64 1)))) (.c (.q 9 [] (.mv (.t 16))) .nil)))
def t181_3 := b181_3
theorem u181_3 : vcK P t181_3 k e w = vcK P b181_3 k e w := rfl
abbrev b181_4 : X := (.seq (.blk 1 (.seq (.reg [1, 6, 7, 8, 9] (.c (.q 11 [] (.ia 1 (.t 7) (.t 9))) (.c (.q 12 [] (.ld (.t 11))) (.c (.q 6 [] (.mv (.t 12))) .nil)))) t181_2)) t181_3)
def t181_4 := b181_4
theorem u181_4 : vcK P t181_4 k e w = vcK P b181_4 k e w := rfl
abbrev b181_5 : X := (.seq (.cond (.t 10) .skip (.exit 0)) t181_4)
def t181_5 := b181_5
theorem u181_5 : vcK P t181_5 k e w = vcK P b181_5 k e w := rfl
abbrev b181_6 : X := (.seq (.reg [1, 7, 8, 9, 10] (.c (.q 10 [] (.bin .lss (.t 9) (.t 8))) .nil)) t181_5)
def t181_6 := b181_6
theorem u181_6 : vcK P t181_6 k e w = vcK P b181_6 k e w := rfl
abbrev b181_7 : X := (.blk 0 (.loop [9] [1, 7, 8] t181_6))
def t181_7 := b181_7
theorem u181_7 : vcK P t181_7 k e w = vcK P b181_7 k e w := rfl
abbrev b181_8 : X := (.seq (.reg [4] (.c (.q 4 [] (.mv (.c (.bool false)))) .nil)) .ret)
def t181_8 := b181_8
theorem u181_8 : vcK P t181_8 k e w = vcK P b181_8 k e w := rfl
abbrev b181_9 : X := (.seq (.seq (.reg [1, 7, 8, 9] (.c (.q 7 [] (.mv (.t 0))) (.c (.q 8 [] (.lens (.t 7))) (.c (.q 9 [] (.mv (.c (.int .i64 0)))) .nil)))) t181_7) t181_8)
def t181_9 := b181_9
theorem u181_9 : vcK P t181_9 k e w = vcK P b181_9 k e w := rfl
abbrev b181_0 : X := (.seq (.reg [0, 1] (.c (.q 4 [] (.mv (.c (.bool false)))) .nil)) t181_9)
def x_sl1HasS := b181_0
theorem u181_0 : vcK P x_sl1HasS k e w = vcK P b181_0 k e w := rfl
def r_sl1HasS : List XO := [(.mv (.t 4))]
theorem c_sl1HasS : convF Try.prog [147, 148, 152, 160, 162, 163, 170, 178, 206, 208, 210, 224, 233, 235, 236, 251, 264, 265, 268, 270, 287, 322] Try.f181 [([0, 1], []), ([1, 7, 8, 9], []), ([9], [1, 7, 8]), ([1, 7, 8, 9, 10], []), ([1, 6, 7, 8, 9], []), ([1, 7, 8, 9, 15], []), ([4], []), ([1, 7, 8, 9], []), ([4], [])] = some (x_sl1HasS, r_sl1HasS) := by kernel_rfl
def us_sl1HasS :=  (aI (aI (aI @u181_0 @u181_1) (aI @u181_2 (aI @u181_3 @u181_4))) (aI (aI @u181_5 @u181_6) (aI @u181_7 (aI @u181_8 @u181_9))))
abbrev b54_1 : X := (.cond (.t 37) (.seq (.reg [4, 5] (.c (.q 4 [] (.mv (.c (.slice none 0 0)))) (.c (.q 5 [] (.mv (.c (.bool false)))) .nil))) .ret) .skip)
def t54_1 := b54_1
theorem u54_1 : vcK P t54_1 k e w = vcK P b54_1 k e w := rfl
abbrev b54_2 : X := (.cond (.t 46) (.reg [1, 6, 38, 39, 40] (.c (.q 47 [] (.mv (.t 6))) (.c (.q 48 [] (.mv (.t 8))) (.c (.e (some 49) [] (.bsl 9 1 [(.t 48)])) (.c (.e (some 50) [] (.app 24 9 1 16 [(S [])] 24 (.t 47) (.t 49))) (.c (.q 6 [] (.mv (.t 50))) .nil)))))) .skip)
def t54_2 := b54_2
theorem u54_2 : vcK P t54_2 k e w = vcK P b54_2 k e w := rfl
abbrev b54_3 : X := (.seq (.reg [1, 6, 8, 38, 39, 40, 46] (.c (.q 44 [] (.mv (.t 1))) (.c (.q 45 [] (.mv (.t 8))) (.c (.e (some 46) [] (.call false 181 [(.t 44), (.t 45)])) .nil)))) t54_2)
def t54_3 := b54_3
theorem u54_3 : vcK P t54_3 k e w = vcK P b54_3 k e w := rfl
abbrev b54_4 : X := (.reg [1, 6, 38, 39, 40] (.c (.q 51 [] (.bin .add (.t 40) (.c (.int .i64 1)))) (.c (.q 40 [] (.mv (.t 51))) .nil)))
def t54_4 := b54_4
theorem u54_4 : vcK P t54_4 k e w = vcK P b54_4 k e w := rfl
abbrev b54_5 : X := (.seq (.blk 1 (.seq (.reg [1, 6, 8, 38, 39, 40] (.c (.q 42 [] (.ia 1 (.t 38) (.t 40))) (.c (.q 43 [] (.ld (.t 42))) (.c (.q 8 [] (.mv (.t 43))) .nil)))) t54_3)) t54_4)
def t54_5 := b54_5
theorem u54_5 : vcK P t54_5 k e w = vcK P b54_5 k e w := rfl
abbrev b54_6 : X := (.seq (.cond (.t 41) .skip (.exit 0)) t54_5)
def t54_6 := b54_6
theorem u54_6 : vcK P t54_6 k e w = vcK P b54_6 k e w := rfl
abbrev b54_7 : X := (.seq (.reg [1, 6, 38, 39, 40, 41] (.c (.q 41 [] (.bin .lss (.t 40) (.t 39))) .nil)) t54_6)
def t54_7 := b54_7
theorem u54_7 : vcK P t54_7 k e w = vcK P b54_7 k e w := rfl
abbrev b54_8 : X := (.blk 0 (.loop [6, 40] [1, 38, 39] t54_7))
def t54_8 := b54_8
theorem u54_8 : vcK P t54_8 k e w = vcK P b54_8 k e w := rfl
abbrev b54_9 : X := (.seq (.reg [4, 5] (.c (.q 52 [] (.mv (.t 6))) (.c (.q 4 [] (.mv (.t 52))) (.c (.q 5 [] (.mv (.c (.bool true)))) .nil)))) .ret)
def t54_9 := b54_9
theorem u54_9 : vcK P t54_9 k e w = vcK P b54_9 k e w := rfl
abbrev b54_10 : X := (.seq (.seq (.reg [1, 6, 38, 39, 40] (.c (.q 38 [] (.mv (.t 0))) (.c (.q 39 [] (.lens (.t 38))) (.c (.q 40 [] (.mv (.c (.int .i64 0)))) .nil)))) t54_8) t54_9)
def t54_10 := b54_10
theorem u54_10 : vcK P t54_10 k e w = vcK P b54_10 k e w := rfl
abbrev b54_11 : X := (.seq (.reg [0, 1, 6] (.c (.q 6 [] (.mv (.c (.slice none 0 0)))) .nil)) t54_10)
def t54_11 := b54_11
theorem u54_11 : vcK P t54_11 k e w = vcK P b54_11 k e w := rfl
abbrev b54_12 : X := (.seq (.seq (.drw [0, 1, 37] (.c (.q 9 [] (.mv (.t 0))) (.c (.e (some 10) [] (.call false 172 [(.t 9)])) (.c (.q 11 [] (.not (.t 10))) (.c (.q 12 [] (.mv (.t 11))) (.c (.q 13 [(12, false)] (.mv (.t 1))) (.c (.e (some 14) [(12, false)] (.call false 172 [(.t 13)])) (.c (.q 15 [(12, false)] (.not (.t 14))) (.c (.q 16 [] (.pick (.t 12) (.c (.bool true)) (.t 15))) (.c (.q 17 [] (.mv (.t 16))) (.c (.q 18 [(17, false)] (.mv (.t 0))) (.c (.q 19 [(17, false)] (.lens (.t 18))) (.c (.q 20 [(17, false)] (.bin .gtr (.t 19) (.c (.int .i64 0)))) (.c (.q 21 [(17, false)] (.mv (.t 20))) (.c (.q 22 [(21, true), (17, false)] (.mv (.t 1))) (.c (.q 23 [(21, true), (17, false)] (.lens (.t 22))) (.c (.q 24 [(21, true), (17, false)] (.bin .gtr (.t 23) (.c (.int .i64 0)))) (.c (.q 25 [(17, false)] (.pick (.t 21) (.t 24) (.c (.bool false)))) (.c (.q 26 [(17, false)] (.mv (.t 25))) (.c (.q 27 [(26, true), (17, false)] (.mv (.t 0))) (.c (.q 28 [(26, true), (17, false)] (.ia 1 (.t 27) (.c (.int .i64 0)))) (.c (.q 29 [(26, true), (17, false)] (.ld (.t 28))) (.c (.q 30 [(26, true), (17, false)] (.len (.t 29))) (.c (.q 31 [(26, true), (17, false)] (.mv (.t 1))) (.c (.q 32 [(26, true), (17, false)] (.ia 1 (.t 31) (.c (.int .i64 0)))) (.c (.q 33 [(26, true), (17, false)] (.ld (.t 32))) (.c (.q 34 [(26, true), (17, false)] (.len (.t 33))) (.c (.q 35 [(26, true), (17, false)] (.bin .neq (.t 30) (.t 34))) (.c (.q 36 [(17, false)] (.pick (.t 26) (.t 35) (.c (.bool false)))) (.c (.q 37 [] (.pick (.t 17) (.c (.bool true)) (.t 36))) .nil)))))))))))))))))))))))))))))) t54_1) t54_11)
def t54_12 := b54_12
theorem u54_12 : vcK P t54_12 k e w = vcK P b54_12 k e w := rfl
abbrev b54_0 : X := (.seq (.reg [0, 1] (.c (.q 4 [] (.mv (.c (.slice none 0 0)))) (.c (.q 5 [] (.mv (.c (.bool false)))) .nil))) t54_12)
def x_sMeetIn := b54_0
theorem u54_0 : vcK P x_sMeetIn k e w = vcK P b54_0 k e w := rfl
def r_sMeetIn : List XO := [(.mv (.t 4)), (.mv (.t 5))]
theorem c_sMeetIn : convF Try.prog [147, 148, 152, 160, 162, 163, 170, 178, 206, 208, 210, 224, 233, 235, 236, 251, 264, 265, 268, 270, 287, 322] Try.f54 [([0, 1], []), ([0, 1, 37], []), ([4, 5], []), ([0, 1, 6], []), ([1, 6, 38, 39, 40], []), ([6, 40], [1, 38, 39]), ([1, 6, 38, 39, 40, 41], []), ([1, 6, 8, 38, 39, 40], []), ([1, 6, 8, 38, 39, 40, 46], []), ([1, 6, 38, 39, 40], []), ([1, 6, 38, 39, 40], []), ([4, 5], [])] = some (x_sMeetIn, r_sMeetIn) := by kernel_rfl
def us_sMeetIn :=  (aI (aI (aI @u54_0 (aI @u54_1 @u54_2)) (aI @u54_3 (aI @u54_4 @u54_5))) (aI (aI @u54_6 (aI @u54_7 @u54_8)) (aI (aI @u54_9 @u54_10) (aI @u54_11 @u54_12))))
abbrev b174_1 : X := (.cond (.t 21) .skip (.exit 0))
def t174_1 := b174_1
theorem u174_1 : vcK P t174_1 k e w = vcK P b174_1 k e w := rfl
abbrev b174_2 : X := (.cond (.t 33) (.reg [0, 1, 5, 6, 7] (.c (.q 34 [] (.mv (.t 5))) (.c (.q 35 [] (.mv (.t 7))) (.c (.q 36 [] (.mv (.t 8))) (.c (.q 37 [] (.ia 1 (.t 34) (.t 35))) (.c (.e none [] (.st 1 (.t 37) (.t 36))) .nil)))))) .skip)
def t174_2 := b174_2
theorem u174_2 : vcK P t174_2 k e w = vcK P b174_2 k e w := rfl
abbrev b174_3 : X := (.seq (.reg [0, 1, 5, 6, 7, 8, 33] (.c (.q 33 [] (.mv (.t 9))) .nil)) t174_2)
def t174_3 := b174_3
theorem u174_3 : vcK P t174_3 k e w = vcK P b174_3 k e w := rfl
abbrev b174_4 : X := (.reg [0, 1, 5, 6, 7] (.c (.q 38 [] (.mv (.t 6))) (.c (.q 39 [] (.mv (.t 0))) (.c (.q 40 [] (.mv (.t 7))) (.c (.q 41 [] (.ia 1 (.t 39) (.t 40))) (.c (.q 42 [] (.ld (.t 41))) (.c (.q 43 [] (.mv (.t 7))) (.c (.e none [] (.mup false .string (.t 38) (.t 42) (.t 43))) .nil))))))))
def t174_4 := b174_4
theorem u174_4 : vcK P t174_4 k e w = vcK P b174_4 k e w := rfl
abbrev b174_5 : X := (.reg [0, 1, 5, 6, 7] (.c (.q 22 [] (.mv (.t 7))) (.c (.q 23 [] (.bin .sub (.t 22) (.c (.int .i64 1)))) (.c (.q 7 [] (.mv (.t 23))) .nil))))
def t174_5 := b174_5
theorem u174_5 : vcK P t174_5 k e w = vcK P b174_5 k e w := rfl
abbrev b174_6 : X := (.seq (.blk 1 (.seq (.seq (.reg [0, 1, 5, 6, 7, 8, 9] (.c (.q 25 [] (.mv (.t 6))) (.c (.q 26 [] (.mv (.t 0))) (.c (.q 27 [] (.mv (.t 7))) (.c (.q 28 [] (.ia 1 (.t 26) (.t 27))) (.c (.q 29 [] (.ld (.t 28))) (.c (.q 30 [] (.mlk true .string (.int .i64 0) (.t 25) (.t 29))) (.c (.q 24 [] (.mv (.t 30))) (.c (.q 31 [] (.ext 0 (.t 24))) (.c (.q 32 [] (.ext 1 (.t 24))) (.c (.q 8 [] (.mv (.t 31))) (.c (.q 9 [] (.mv (.t 32))) .nil)))))))))))) t174_3) t174_4)) t174_5)
def t174_6 := b174_6
theorem u174_6 : vcK P t174_6 k e w = vcK P b174_6 k e w := rfl
abbrev b174_7 : X := (.seq (.seq (.reg [0, 1, 5, 6, 7, 21] (.c (.q 20 [] (.mv (.t 7))) (.c (.q 21 [] (.bin .geq (.t 20) (.c (.int .i64 0)))) .nil))) t174_1) t174_6)
def t174_7 := b174_7
theorem u174_7 : vcK P t174_7 k e w = vcK P b174_7 k e w := rfl
abbrev b174_8 : X := (.blk 0 (.loop [7] [0, 1, 5, 6] t174_7))
def t174_8 := b174_8
theorem u174_8 : vcK P t174_8 k e w = vcK P b174_8 k e w := rfl
abbrev b174_9 : X := (.cond (.t 55) .skip (.exit 4))
def t174_9 := b174_9
theorem u174_9 : vcK P t174_9 k e w = vcK P b174_9 k e w := rfl
abbrev b174_10 : X := (.cond (.t 63) (.seq (.reg [4] (.c (.q 64 [] (.mv (.t 10))) (.c (.q 4 [] (.mv (.t 64))) .nil))) .ret) .skip)
def t174_10 := b174_10
theorem u174_10 : vcK P t174_10 k e w = vcK P b174_10 k e w := rfl
abbrev b174_11 : X := (.reg [1, 5, 10, 11, 12, 46, 47] (.c (.q 65 [] (.mv (.t 10))) (.c (.q 66 [] (.mv (.t 11))) (.c (.q 67 [] (.mv (.t 12))) (.c (.e (some 68) [] (.bsl 3 1 [(.t 66), (.t 67)])) (.c (.e (some 69) [] (.bsl 39 1 [(.t 68)])) (.c (.e (some 70) [] (.app 28 39 1 24 [(.slice none 0 0)] 28 (.t 65) (.t 69))) (.c (.q 10 [] (.mv (.t 70))) .nil))))))))
def t174_11 := b174_11
theorem u174_11 : vcK P t174_11 k e w = vcK P b174_11 k e w := rfl
abbrev b174_12 : X := (.reg [1, 5, 10, 11, 12, 46, 47] (.c (.q 56 [] (.mv (.t 5))) (.c (.q 57 [] (.mv (.t 12))) (.c (.q 58 [] (.ia 1 (.t 56) (.t 57))) (.c (.q 59 [] (.ld (.t 58))) (.c (.q 12 [] (.mv (.t 59))) .nil))))))
def t174_12 := b174_12
theorem u174_12 : vcK P t174_12 k e w = vcK P b174_12 k e w := rfl
abbrev b174_13 : X := (.seq (.blk 5 (.seq (.seq (.reg [1, 5, 10, 11, 12, 46, 47, 63] (.c (.q 60 [] (.mv (.t 10))) (.c (.q 61 [] (.lens (.t 60))) (.c (.q 62 [] (.mv (.t 1))) (.c (.q 63 [] (.bin .eql (.t 61) (.t 62))) .nil))))) t174_10) t174_11)) t174_12)
def t174_13 := b174_13
theorem u174_13 : vcK P t174_13 k e w = vcK P b174_13 k e w := rfl
abbrev b174_14 : X := (.seq (.seq (.reg [1, 5, 10, 11, 12, 46, 47, 55] (.c (.q 54 [] (.mv (.t 12))) (.c (.q 55 [] (.bin .gtr (.t 54) (.c (.int .i64 0)))) .nil))) t174_9) t174_13)
def t174_14 := b174_14
theorem u174_14 : vcK P t174_14 k e w = vcK P b174_14 k e w := rfl
abbrev b174_15 : X := (.blk 4 (.loop [10, 12] [1, 5, 11, 46, 47] t174_14))
def t174_15 := b174_15
theorem u174_15 : vcK P t174_15 k e w = vcK P b174_15 k e w := rfl
abbrev b174_16 : X := (.seq (.reg [1, 5, 10, 11, 12, 46, 47] (.c (.q 50 [] (.mv (.t 5))) (.c (.q 51 [] (.mv (.t 11))) (.c (.q 52 [] (.ia 1 (.t 50) (.t 51))) (.c (.q 53 [] (.ld (.t 52))) (.c (.q 12 [] (.mv (.t 53))) .nil)))))) t174_15)
def t174_16 := b174_16
theorem u174_16 : vcK P t174_16 k e w = vcK P b174_16 k e w := rfl
abbrev b174_17 : X := (.reg [1, 5, 10, 46, 47] (.c (.q 71 [] (.bin .add (.t 47) (.c (.int .i64 1)))) (.c (.q 47 [] (.mv (.t 71))) .nil)))
def t174_17 := b174_17
theorem u174_17 : vcK P t174_17 k e w = vcK P b174_17 k e w := rfl
abbrev b174_18 : X := (.seq (.blk 3 (.seq (.reg [1, 5, 10, 11, 46, 47] (.c (.q 49 [] (.mv (.t 47))) (.c (.q 11 [] (.mv (.t 49))) .nil))) t174_16)) t174_17)
def t174_18 := b174_18
theorem u174_18 : vcK P t174_18 k e w = vcK P b174_18 k e w := rfl
abbrev b174_19 : X := (.seq (.cond (.t 48) .skip (.exit 2)) t174_18)
def t174_19 := b174_19
theorem u174_19 : vcK P t174_19 k e w = vcK P b174_19 k e w := rfl
abbrev b174_20 : X := (.seq (.reg [1, 5, 10, 46, 47, 48] (.c (.q 48 [] (.bin .lss (.t 47) (.t 46))) .nil)) t174_19)
def t174_20 := b174_20
theorem u174_20 : vcK P t174_20 k e w = vcK P b174_20 k e w := rfl
abbrev b174_21 : X := (.blk 2 (.loop [10, 47] [1, 5, 46] t174_20))
def t174_21 := b174_21
theorem u174_21 : vcK P t174_21 k e w = vcK P b174_21 k e w := rfl
abbrev b174_22 : X := (.seq (.reg [4] (.c (.q 72 [] (.mv (.t 10))) (.c (.q 4 [] (.mv (.t 72))) .nil))) .ret)
def t174_22 := b174_22
theorem u174_22 : vcK P t174_22 k e w = vcK P b174_22 k e w := rfl
abbrev b174_23 : X := (.seq (.seq (.reg [1, 5, 10, 46, 47] (.c (.q 45 [] (.mv (.t 0))) (.c (.q 46 [] (.lens (.t 45))) (.c (.q 47 [] (.mv (.c (.int .i64 0)))) .nil)))) t174_21) t174_22)
def t174_23 := b174_23
theorem u174_23 : vcK P t174_23 k e w = vcK P b174_23 k e w := rfl
abbrev b174_24 : X := (.seq (.reg [0, 1, 5, 10] (.c (.e (some 44) [] (.bsl 39 1 [])) (.c (.q 10 [] (.mv (.t 44))) .nil))) t174_23)
def t174_24 := b174_24
theorem u174_24 : vcK P t174_24 k e w = vcK P b174_24 k e w := rfl
abbrev b174_25 : X := (.seq (.seq (.reg [0, 1, 5, 6, 7] (.c (.q 17 [] (.mv (.t 0))) (.c (.q 18 [] (.lens (.t 17))) (.c (.q 19 [] (.bin .sub (.t 18) (.c (.int .i64 1)))) (.c (.q 7 [] (.mv (.t 19))) .nil))))) t174_8) t174_24)
def t174_25 := b174_25
theorem u174_25 : vcK P t174_25 k e w = vcK P b174_25 k e w := rfl
abbrev b174_26 : X := (.seq (.reg [0, 1, 5, 6] (.c (.e (some 16) [] .mkmap) (.c (.q 6 [] (.mv (.t 16))) .nil))) t174_25)
def t174_26 := b174_26
theorem u174_26 : vcK P t174_26 k e w = vcK P b174_26 k e w := rfl
abbrev b174_27 : X := (.seq (.reg [0, 1, 5] (.c (.q 13 [] (.mv (.t 0))) (.c (.q 14 [] (.lens (.t 13))) (.c (.e (some 15) [] (.msl 39 3 1 8 [(.int .i64 0)] (.t 14) (.t 14))) (.c (.q 5 [] (.mv (.t 15))) .nil))))) t174_26)
def t174_27 := b174_27
theorem u174_27 : vcK P t174_27 k e w = vcK P b174_27 k e w := rfl
abbrev b174_0 : X := (.seq (.reg [0, 1] (.c (.q 4 [] (.mv (.c (.slice none 0 0)))) .nil)) t174_27)
def x_irepeats := b174_0
theorem u174_0 : vcK P x_irepeats k e w = vcK P b174_0 k e w := rfl
def r_irepeats : List XO := [(.mv (.t 4))]
theorem c_irepeats : convF Try.prog [147, 148, 152, 160, 162, 163, 170, 178, 206, 208, 210, 224, 233, 235, 236, 251, 264, 265, 268, 270, 287, 322] Try.f174 [([0, 1], []), ([0, 1, 5], []), ([0, 1, 5, 6], []), ([0, 1, 5, 6, 7], []), ([7], [0, 1, 5, 6]), ([0, 1, 5, 6, 7, 21], []), ([0, 1, 5, 6, 7, 8, 9], []), ([0, 1, 5, 6, 7, 8, 33], []), ([0, 1, 5, 6, 7], []), ([0, 1, 5, 6, 7], []), ([0, 1, 5, 6, 7], []), ([0, 1, 5, 10], []), ([1, 5, 10, 46, 47], []), ([10, 47], [1, 5, 46]), ([1, 5, 10, 46, 47, 48], []), ([1, 5, 10, 11, 46, 47], []), ([1, 5, 10, 11, 12, 46, 47], []), ([10, 12], [1, 5, 11, 46, 47]), ([1, 5, 10, 11, 12, 46, 47, 55], []), ([1, 5, 10, 11, 12, 46, 47, 63], []), ([4], []), ([1, 5, 10, 11, 12, 46, 47], []), ([1, 5, 10, 11, 12, 46, 47], []), ([1, 5, 10, 46, 47], []), ([4], [])] = some (x_irepeats, r_irepeats) := by kernel_rfl
def us_irepeats :=  (aI (aI (aI (aI @u174_0 (aI @u174_1 @u174_2)) (aI (aI @u174_3 @u174_4) (aI @u174_5 @u174_6))) (aI (aI @u174_7 (aI @u174_8 @u174_9)) (aI (aI @u174_10 @u174_11) (aI @u174_12 @u174_13)))) (aI (aI (aI @u174_14 (aI @u174_15 @u174_16)) (aI (aI @u174_17 @u174_18) (aI @u174_19 @u174_20))) (aI (aI @u174_21 (aI @u174_22 @u174_23)) (aI (aI @u174_24 @u174_25) (aI @u174_26 @u174_27)))))
abbrev b48_1 : X := (.cond (.t 6) (.seq (.reg [2, 3] (.c (.q 2 [] (.mv (.c (.slice none 0 0)))) (.c (.q 3 [] (.mv (.c (.bool false)))) .nil))) .ret) .skip)
def t48_1 := b48_1
theorem u48_1 : vcK P t48_1 k e w = vcK P b48_1 k e w := rfl
abbrev b48_2 : X := (.seq (.reg [2, 3] (.c (.q 7 [] (.mv (.t 0))) (.c (.e (some 8) [] (.call false 174 [(.t 7), (.c (.int .i64 100))])) (.c (.q 2 [] (.mv (.t 8))) (.c (.q 3 [] (.mv (.c (.bool true)))) .nil))))) .ret)
def t48_2 := b48_2
theorem u48_2 : vcK P t48_2 k e w = vcK P b48_2 k e w := rfl
abbrev b48_3 : X := (.seq (.seq (.reg [0, 6] (.c (.q 4 [] (.mv (.t 0))) (.c (.e (some 5) [] (.call false 115 [(.t 4)])) (.c (.q 6 [] (.not (.t 5))) .nil)))) t48_1) t48_2)
def t48_3 := b48_3
theorem u48_3 : vcK P t48_3 k e w = vcK P b48_3 k e w := rfl
abbrev b48_0 : X := (.seq (.reg [0] (.c (.q 2 [] (.mv (.c (.slice none 0 0)))) (.c (.q 3 [] (.mv (.c (.bool false)))) .nil))) t48_3)
def x_iRepeatsIn := b48_0
theorem u48_0 : vcK P x_iRepeatsIn k e w = vcK P b48_0 k e w := rfl
def r_iRepeatsIn : List XO := [(.mv (.t 2)), (.mv (.t 3))]
theorem c_iRepeatsIn : convF Try.prog [147, 148, 152, 160, 162, 163, 170, 178, 206, 208, 210, 224, 233, 235, 236, 251, 264, 265, 268, 270, 287, 322] Try.f48 [([0], []), ([0, 6], []), ([2, 3], []), ([2, 3], [])] = some (x_iRepeatsIn, r_iRepeatsIn) := by kernel_rfl
def us_iRepeatsIn :=  (aI (aI @u48_0 @u48_1) (aI @u48_2 @u48_3))
abbrev b49_1 : X := (.cond (.t 9) (.seq (.reg [2, 3] (.c (.q 2 [] (.mv (.c (.slice none 0 0)))) (.c (.q 3 [] (.mv (.c (.bool false)))) .nil))) .ret) .skip)
def t49_1 := b49_1
theorem u49_1 : vcK P t49_1 k e w = vcK P b49_1 k e w := rfl
abbrev b49_2 : X := (.cond (.t 25) .skip (.exit 2))
def t49_2 := b49_2
theorem u49_2 : vcK P t49_2 k e w = vcK P b49_2 k e w := rfl
abbrev b49_3 : X := (.cond (.t 36) (.reg [0, 4, 5, 6, 11, 12] (.c (.q 37 [] (.mv (.t 4))) (.c (.q 38 [] (.mv (.t 5))) (.c (.q 39 [] (.mv (.t 6))) (.c (.e (some 40) [] (.bsl 3 1 [(.t 38), (.t 39)])) (.c (.e (some 41) [] (.bsl 39 1 [(.t 40)])) (.c (.e (some 42) [] (.app 28 39 1 24 [(.slice none 0 0)] 28 (.t 37) (.t 41))) (.c (.q 4 [] (.mv (.t 42))) .nil)))))))) .skip)
def t49_3 := b49_3
theorem u49_3 : vcK P t49_3 k e w = vcK P b49_3 k e w := rfl
abbrev b49_4 : X := (.reg [0, 4, 5, 6, 11, 12] (.c (.q 26 [] (.mv (.t 6))) (.c (.q 27 [] (.bin .add (.t 26) (.c (.int .i64 1)))) (.c (.q 6 [] (.mv (.t 27))) .nil))))
def t49_4 := b49_4
theorem u49_4 : vcK P t49_4 k e w = vcK P b49_4 k e w := rfl
abbrev b49_5 : X := (.seq (.blk 3 (.seq (.drw [0, 4, 5, 6, 11, 12, 36] (.c (.q 28 [] (.mv (.t 0))) (.c (.q 29 [] (.mv (.t 5))) (.c (.q 30 [] (.ia 1 (.t 28) (.t 29))) (.c (.q 31 [] (.ld (.t 30))) (.c (.q 32 [] (.mv (.t 0))) (.c (.q 33 [] (.mv (.t 6))) (.c (.q 34 [] (.ia 1 (.t 32) (.t 33))) (.c (.q 35 [] (.ld (.t 34))) (.c (.q 36 [] (.bin .eql (.t 31) (.t 35))) .nil)))))))))) t49_3)) t49_4)
def t49_5 := b49_5
theorem u49_5 : vcK P t49_5 k e w = vcK P b49_5 k e w := rfl
abbrev b49_6 : X := (.seq (.seq (.reg [0, 4, 5, 6, 11, 12, 25] (.c (.q 17 [] (.mv (.t 6))) (.c (.q 18 [] (.mv (.t 0))) (.c (.q 19 [] (.lens (.t 18))) (.c (.q 20 [] (.bin .lss (.t 17) (.t 19))) (.c (.q 21 [] (.mv (.t 20))) (.c (.q 22 [(21, true)] (.mv (.t 4))) (.c (.q 23 [(21, true)] (.lens (.t 22))) (.c (.q 24 [(21, true)] (.bin .lss (.t 23) (.c (.int .i64 100)))) (.c (.q 25 [] (.pick (.t 21) (.t 24) (.c (.bool false)))) .nil)))))))))) t49_2) t49_5)
def t49_6 := b49_6
theorem u49_6 : vcK P t49_6 k e w = vcK P b49_6 k e w := rfl
abbrev b49_7 : X := (.blk 2 (.loop [4, 6] [0, 5, 11, 12] t49_6))
def t49_7 := b49_7
theorem u49_7 : vcK P t49_7 k e w = vcK P b49_7 k e w := rfl
abbrev b49_8 : X := (.seq (.reg [0, 4, 5, 6, 11, 12] (.c (.q 15 [] (.mv (.t 5))) (.c (.q 16 [] (.bin .add (.t 15) (.c (.int .i64 1)))) (.c (.q 6 [] (.mv (.t 16))) .nil)))) t49_7)
def t49_8 := b49_8
theorem u49_8 : vcK P t49_8 k e w = vcK P b49_8 k e w := rfl
abbrev b49_9 : X := (.reg [0, 4, 11, 12] (.c (.q 43 [] (.bin .add (.t 12) (.c (.int .i64 1)))) (.c (.q 12 [] (.mv (.t 43))) .nil)))
def t49_9 := b49_9
theorem u49_9 : vcK P t49_9 k e w = vcK P b49_9 k e w := rfl
abbrev b49_10 : X := (.seq (.blk 1 (.seq (.reg [0, 4, 5, 11, 12] (.c (.q 14 [] (.mv (.t 12))) (.c (.q 5 [] (.mv (.t 14))) .nil))) t49_8)) t49_9)
def t49_10 := b49_10
theorem u49_10 : vcK P t49_10 k e w = vcK P b49_10 k e w := rfl
abbrev b49_11 : X := (.seq (.cond (.t 13) .skip (.exit 0)) t49_10)
def t49_11 := b49_11
theorem u49_11 : vcK P t49_11 k e w = vcK P b49_11 k e w := rfl
abbrev b49_12 : X := (.seq (.reg [0, 4, 11, 12, 13] (.c (.q 13 [] (.bin .lss (.t 12) (.t 11))) .nil)) t49_11)
def t49_12 := b49_12
theorem u49_12 : vcK P t49_12 k e w = vcK P b49_12 k e w := rfl
abbrev b49_13 : X := (.blk 0 (.loop [4, 12] [0, 11] t49_12))
def t49_13 := b49_13
theorem u49_13 : vcK P t49_13 k e w = vcK P b49_13 k e w := rfl
abbrev b49_14 : X := (.seq (.reg [2, 3] (.c (.q 44 [] (.mv (.t 4))) (.c (.q 2 [] (.mv (.t 44))) (.c (.q 3 [] (.mv (.c (.bool true)))) .nil)))) .ret)
def t49_14 := b49_14
theorem u49_14 : vcK P t49_14 k e w = vcK P b49_14 k e w := rfl
abbrev b49_15 : X := (.seq (.seq (.reg [0, 4, 11, 12] (.c (.q 10 [] (.mv (.t 0))) (.c (.q 11 [] (.lens (.t 10))) (.c (.q 12 [] (.mv (.c (.int .i64 0)))) .nil)))) t49_13) t49_14)
def t49_15 := b49_15
theorem u49_15 : vcK P t49_15 k e w = vcK P b49_15 k e w := rfl
abbrev b49_16 : X := (.seq (.reg [0, 4] (.c (.q 4 [] (.mv (.c (.slice none 0 0)))) .nil)) t49_15)
def t49_16 := b49_16
theorem u49_16 : vcK P t49_16 k e w = vcK P b49_16 k e w := rfl
abbrev b49_17 : X := (.seq (.seq (.reg [0, 9] (.c (.q 7 [] (.mv (.t 0))) (.c (.e (some 8) [] (.call false 172 [(.t 7)])) (.c (.q 9 [] (.not (.t 8))) .nil)))) t49_1) t49_16)
def t49_17 := b49_17
theorem u49_17 : vcK P t49_17 k e w = vcK P b49_17 k e w := rfl
abbrev b49_0 : X := (.seq (.reg [0] (.c (.q 2 [] (.mv (.c (.slice none 0 0)))) (.c (.q 3 [] (.mv (.c (.bool false)))) .nil))) t49_17)
def x_sRepeatsIn := b49_0
theorem u49_0 : vcK P x_sRepeatsIn k e w = vcK P b49_0 k e w := rfl
def r_sRepeatsIn : List XO := [(.mv (.t 2)), (.mv (.t 3))]
theorem c_sRepeatsIn : convF Try.prog [147, 148, 152, 160, 162, 163, 170, 178, 206, 208, 210, 224, 233, 235, 236, 251, 264, 265, 268, 270, 287, 322] Try.f49 [([0], []), ([0, 9], []), ([2, 3], []), ([0, 4], []), ([0, 4, 11, 12], []), ([4, 12], [0, 11]), ([0, 4, 11, 12, 13], []), ([0, 4, 5, 11, 12], []), ([0, 4, 5, 6, 11, 12], []), ([4, 6], [0, 5, 11, 12]), ([0, 4, 5, 6, 11, 12, 25], []), ([0, 4, 5, 6, 11, 12, 36], []), ([0, 4, 5, 6, 11, 12], []), ([0, 4, 5, 6, 11, 12], []), ([0, 4, 11, 12], []), ([2, 3], [])] = some (x_sRepeatsIn, r_sRepeatsIn) := by kernel_rfl
def us_sRepeatsIn :=  (aI (aI (aI (aI @u49_0 @u49_1) (aI @u49_2 @u49_3)) (aI (aI @u49_4 @u49_5) (aI @u49_6 (aI @u49_7 @u49_8)))) (aI (aI (aI @u49_9 @u49_10) (aI @u49_11 @u49_12)) (aI (aI @u49_13 @u49_14) (aI @u49_15 (aI @u49_16 @u49_17)))))
end

/-! ### a map from texts to numbers -/
/-- Block m holds a map from texts to numbers. -/
def MapN (w : World) (m : Nat) (f : Bs → Option Nat) : Prop := ∃ es, mapAt w (.map (some m)) = some es ∧ (∀ p ∈ es, ∃ s, p.1 = S s) ∧ ∀ s, lkE .string (S s) es = some ((f s).map fun n : Nat => Value.int .i64 n)
theorem lk_put (s t : Bs) (v : Value) : ∀ es : List (Value × Value), (∀ p ∈ es, ∃ s, p.1 = S s) → lkE .string (S s) (putE .string (S t) v es) = if s = t then some (some v) else lkE .string (S s) es
  | [], _ => by
    simp only [putE, lkE, same_S]
    by_cases h : s = t <;> simp [h]
  | (a, b) :: es, hk => by
    obtain ⟨u, rfl⟩ : ∃ u, a = S u := hk (a, b) List.mem_cons_self
    have ih := lk_put s t v es fun p hp => hk p (List.mem_cons_of_mem _ hp)
    simp only [putE, same_S]
    by_cases h : t = u
    · subst h
      rw [decide_eq_true rfl]
      show lkE .string (S s) ((S t, v) :: es) = _
      simp only [lkE, same_S]
      by_cases h2 : s = t <;> simp [h2]
    · rw [decide_eq_false h]
      show lkE .string (S s) ((S u, b) :: putE .string (S t) v es) = _
      simp only [lkE, same_S]
      by_cases h2 : s = u
      · subst h2
        have h3 : ¬ s = t := fun e => h e.symm
        simp [h3]
      · rw [decide_eq_false h2]
        exact ih
theorem put_keys (t : Bs) (v : Value) : ∀ es : List (Value × Value), (∀ p ∈ es, ∃ s, p.1 = S s) → ∀ p ∈ putE .string (S t) v es, ∃ s, p.1 = S s
  | [], _ => fun p hp => by simp only [putE, List.mem_singleton] at hp; exact ⟨t, by rw [hp]⟩
  | (a, b) :: es, hk => fun p hp => by
    have ih := put_keys t v es fun p hp => hk p (List.mem_cons_of_mem _ hp)
    have hs := hk (a, b) List.mem_cons_self
    simp only [putE] at hp
    split at hp
    · rcases List.mem_cons.1 hp with e | e
      · exact ⟨t, by rw [e]⟩
      · exact hk p (List.mem_cons_of_mem _ e)
    · rcases List.mem_cons.1 hp with e | e
      · rw [e]; exact hs
      · exact ih p e
section
variable {w w' : World} {m : Nat} {f : Bs → Option Nat}
theorem MapN.lt (h : MapN w m f) : m < w.heap.size := by
  obtain ⟨es, h, _⟩ := h
  simp only [mapAt] at h
  cases hb : w.heap[m]? with
  | none => rw [hb] at h; simp at h
  | some o => exact (Array.getElem?_eq_some_iff.1 hb).1
theorem MapN.same (h : MapN w m f) (he : w'.heap[m]? = w.heap[m]?) : MapN w' m f := by
  obtain ⟨es, h1, h2⟩ := h
  refine ⟨es, ?_, h2⟩
  simp only [mapAt] at h1 ⊢
  rw [he]; exact h1
theorem MapN.ext (h : MapN w m f) (hx : Ext w w') : MapN w' m f := h.same (hx.block h.lt)
theorem MapN.grown {row : Option Nat} (h : MapN w m f) (hg : w.grownBy w' row) (hne : row ≠ some m) : MapN w' m f := h.same (hg.block m h.lt fun e => hne e.symm)
theorem MapN.look (h : MapN w m f) (s : Bs) : mlkV w true .string (.int .i64 0) (.map (some m)) (S s) = (match f s with | some n => .tuple ⟨[.int .i64 (n : Nat), .bool true]⟩ | none => .tuple ⟨[.int .i64 0, .bool false]⟩) ∧ mlkD w .string (.map (some m)) (S s) = True := by
  obtain ⟨es, h1, h2, h3⟩ := h
  unfold mlkV mlkD
  rw [h1, Option.bind_some, h3]
  cases f s <;> simp [mlkR]
theorem MapN.apart {α : Type} {g : α → List Value} {z : Nat} {E : TypeId} {B : Nat} {v : Value} {l : List α} (h : MapN w m f) (ho : Own g z E B w v l) : v.ownBlock ≠ some m := by
  obtain ⟨es, h, _⟩ := h
  intro e
  rcases ho.2 with ⟨rfl, _⟩ | ⟨b, cap, cur, rfl, _, ⟨fz, hb, _⟩, _⟩
  · cases e
  · simp only [Value.ownBlock, Option.some.injEq] at e
    subst e
    simp only [mapAt, hb] at h
    cases h
end
section
variable {P : Program} {mw : Option World} {ps : List Nat} {k : KT} {r : XT} {d : Option Nat} {l : EL} {w : World}
theorem m_mkmapN (h : ∀ b w', b = w.heap.size → MapN w' b (fun _ => none) → Ext w w' → w'.heap.size = b + 1 → ∀ s, ops P mw ps k r (setO ⟨l, s⟩ d (.map (some b))) w') : mkmapL P mw ps k r d l w := by
  unfold mkmapL mkmapK
  intro s
  exact h _ _ rfl ⟨[], by simp only [mapAt, heap_alloc_new]; rfl, by simp, fun s => rfl⟩ (Ext.alloc w _) (by simp) s
theorem m_putN {b n : Nat} {f : Bs → Option Nat} {s : Bs} (hm : MapN w b f) (h : ∀ w', MapN w' b (fun t => if t = s then some n else f t) → Upd w w' b → ∀ q, ops P mw ps k r (setO ⟨l, q⟩ d undef) w') : mupL P mw ps k r d l w false .string (.map (some b)) (S s) (.int .i64 (n : Nat)) := by
  obtain ⟨es, h1, h2, h3⟩ := hm
  refine m_mup h1 (by rw [h3]; rfl) fun w' e hu => h w' ⟨_, e, put_keys s _ es h2, fun t => ?_⟩ hu
  rw [lk_put t s _ es h2, h3]
  by_cases ht : t = s <;> simp [ht]
end
theorem sl1HasS_okq (v : Value) (l : List Bs) (x : Bs) (hl : l.length ≤ 1000000000) (w : World) (h : Sq fS 1 w v l) : Fn 181 [v, S x] w (fun r _ => r = .bool (decide (x ∈ l))) := by
  (refine callsV_of mix Try.func181 c_sl1HasS ?_; simp only [↓vsd, vsn, gW, qd, qv, ev, pick, argE, zipE, ne_eq, eq_self, forall_const, implies_true, if_true, if_false, reduceIte, reduceCtorEq, Nat.reduceEqDiff, Nat.reduceAdd, Nat.reduceLT, ↓us_sl1HasS, r_sl1HasS])
  simp only [↓vsd, vsn, gW, qd, qv, ev, pick, argE, zipE, ne_eq, eq_self, forall_const, implies_true, if_true, if_false, reduceIte, reduceCtorEq, Nat.reduceEqDiff, Nat.reduceAdd, Nat.reduceLT, ↓us_sl1HasS, r_sl1HasS, h.facts]
  refine m_upto l.length (fun i vs w' => vs = [.int .i64 i] ∧ x ∉ l.take i ∧ Ext w w') ⟨rfl, by simp, Ext.refl _⟩ ?_
  rintro i vs w1 hi ⟨rfl, hno, hx1⟩
  have hq1 := h.ext hx1
  by_cases hlt : i < l.length
  · have hltI : (i : Int) < l.length := by omega
    have hltJ : ¬ (l.length : Int) ≤ i := by omega
    have a1 := hq1.at1 [] hlt
    have hsn := take_snocB hlt
    have hm := getD_mem [] hlt
    generalize l.getD i [] = y at *
    simp only [↓vsd, vsn, gW, qd, qv, ev, pick, argE, zipE, ne_eq, eq_self, forall_const, implies_true, if_true, if_false, reduceIte, reduceCtorEq, Nat.reduceEqDiff, Nat.reduceAdd, Nat.reduceLT, ↓us_sl1HasS, r_sl1HasS, hltI, hltJ, hq1.facts, a1]
    refine ⟨by omega, fun he => ⟨hx1, (decide_eq_true (by rw [← he]; exact hm)).symm⟩, fun hne => ⟨inR_i64 (by omega), UpTo.next hlt ⟨rfl, fun hin => ?_, by first | exact hx1 | exact dr hx1⟩⟩⟩
    rw [hsn] at hin
    rcases List.mem_append.1 hin with h1 | h1
    · exact hno h1
    · exact hne (List.mem_singleton.1 h1).symm
  · obtain rfl : i = l.length := by omega
    have hltI : ¬ (l.length : Int) < l.length := by omega
    rw [List.take_length] at hno
    simp only [↓vsd, vsn, gW, qd, qv, ev, pick, argE, zipE, ne_eq, eq_self, forall_const, implies_true, if_true, if_false, reduceIte, reduceCtorEq, Nat.reduceEqDiff, Nat.reduceAdd, Nat.reduceLT, ↓us_sl1HasS, r_sl1HasS, hltI]
    exact ⟨hx1, (decide_eq_false hno).symm⟩
def meetL (a b : List Bs) : List Bs := a.filter fun r => decide (r ∈ b)
theorem meet_snoc {a b : List Bs} {k : Nat} (h : k < a.length) : meetL (a.take (k + 1)) b = meetL (a.take k) b ++ if a.getD k [] ∈ b then [a.getD k []] else [] := by
  rw [take_snocB h, meetL, List.filter_append]
  congr 1
  by_cases hb : a.getD k [] ∈ b
  · rw [if_pos hb, List.filter_cons_of_pos (by simpa using hb)]; rfl
  · rw [if_neg hb, List.filter_cons_of_neg (by simpa using hb)]; rfl
theorem meet_len (a b : List Bs) : (meetL a b).length ≤ a.length := List.length_filter_le _ _
theorem imeeting_ok (v u : Value) (a b : List Bs) (ha : a.length ≤ 1000000) (hb : b.length ≤ 1000000) (w : World) (h : Sq fS 1 w v a) (h' : Sq fS 1 w u b) : Fn 180 [v, u] w (fun r w' => Own fS 1 9 w.heap.size w' r (meetL a b)) := by
  (refine callsV_of mix Try.func180 c_imeeting ?_; simp only [↓vsd, vsn, gW, qd, qv, ev, pick, argE, zipE, ne_eq, eq_self, forall_const, implies_true, if_true, if_false, reduceIte, reduceCtorEq, Nat.reduceEqDiff, Nat.reduceAdd, Nat.reduceLT, ↓us_imeeting, r_imeeting])
  refine m_mkset ?_
  rintro m w1 hmb hs1 hx1 hsz
  have hq1 := h'.ext hx1
  simp only [↓vsd, vsn, gW, qd, qv, ev, pick, argE, zipE, ne_eq, eq_self, forall_const, implies_true, if_true, if_false, reduceIte, reduceCtorEq, Nat.reduceEqDiff, Nat.reduceAdd, Nat.reduceLT, ↓us_imeeting, r_imeeting, hq1.facts]
  refine m_upto b.length (fun k vs w' => vs = [.int .i64 k] ∧ (∃ L, SetAt w' m L ∧ ∀ x, x ∈ L ↔ x ∈ b.take k) ∧ Ext w w') ⟨rfl, ⟨[], hs1, by simp⟩, hx1⟩ ?_
  rintro k vs w2 hk ⟨rfl, ⟨L, hs2, hL⟩, hx2⟩
  have hq2 := h'.ext hx2
  by_cases hlt : k < b.length
  · have hltI : (k : Int) < b.length := by omega
    have hltJ : ¬ (b.length : Int) ≤ k := by omega
    have a2 := hq2.at1 [] hlt
    have hsn := take_snocB hlt
    generalize b.getD k [] = r at *
    simp only [↓vsd, vsn, gW, qd, qv, ev, pick, argE, zipE, ne_eq, eq_self, forall_const, implies_true, if_true, if_false, reduceIte, reduceCtorEq, Nat.reduceEqDiff, Nat.reduceAdd, Nat.reduceLT, ↓us_imeeting, r_imeeting, hltI, hltJ, hq2.facts, a2]
    refine ⟨by omega, m_put hs2 ?_⟩
    rintro w3 hs3 hu3
    have hx3 : Ext w w3 := hu3.below hx2 (by omega)
    simp only [↓vsd, vsn, gW, qd, qv, ev, pick, argE, zipE, ne_eq, eq_self, forall_const, implies_true, if_true, if_false, reduceIte, reduceCtorEq, Nat.reduceEqDiff, Nat.reduceAdd, Nat.reduceLT, ↓us_imeeting, r_imeeting]
    exact ⟨inR_i64 (by omega), UpTo.next hlt ⟨rfl, ⟨_, hs3, fun x => by rw [put1_mem, hL, hsn, List.mem_append, List.mem_singleton]⟩, hx3⟩⟩
  · obtain rfl : k = b.length := by omega
    have hltI : ¬ (b.length : Int) < b.length := by omega
    rw [List.take_length] at hL
    simp only [↓vsd, vsn, gW, qd, qv, ev, pick, argE, zipE, ne_eq, eq_self, forall_const, implies_true, if_true, if_false, reduceIte, reduceCtorEq, Nat.reduceEqDiff, Nat.reduceAdd, Nat.reduceLT, ↓us_imeeting, r_imeeting, hltI]
    refine m_bsl (by simp) ?_
    rintro b3 w3 hb3 hblk3 hx3 hs3
    have hx03 := hx2.trans hx3
    have hq3 := h.ext hx03
    have hst3 := hs2.ext hx3
    simp only [↓vsd, vsn, gW, qd, qv, ev, pick, argE, zipE, ne_eq, eq_self, forall_const, implies_true, if_true, if_false, reduceIte, reduceCtorEq, Nat.reduceEqDiff, Nat.reduceAdd, Nat.reduceLT, ↓us_imeeting, r_imeeting, hq3.facts]
    refine m_upto a.length (fun i vs w' => ∃ x, vs = [x, .int .i64 i] ∧ Own fS 1 9 w.heap.size w' x (meetL (a.take i) b) ∧ SetAt w' m L ∧ Ext w w') ⟨_, rfl, (Own.empty fS_len hblk3 (by have := hx2.size; omega)).to (by simp [meetL]), hst3, hx03⟩ ?_
    rintro i vs w4 hi ⟨x, rfl, ho4, hs4, hx4⟩
    have hq4 := h.ext hx4
    by_cases hli : i < a.length
    · have hliI : (i : Int) < a.length := by omega
      have hliJ : ¬ (a.length : Int) ≤ i := by omega
      have a4 := hq4.at1 [] hli
      have hsn := meet_snoc (b := b) hli
      have hml := meet_len (a.take i) b
      rw [List.length_take] at hml
      generalize a.getD i [] = r at *
      have hlk := hs4.look r
      have hrl := hL r
      by_cases hin : r ∈ b
      · have hD : decide (r ∈ L) = true := decide_eq_true (hrl.2 hin)
        rw [if_pos hin] at hsn
        simp only [↓vsd, vsn, gW, qd, qv, ev, pick, argE, zipE, ne_eq, eq_self, forall_const, implies_true, if_true, if_false, reduceIte, reduceCtorEq, Nat.reduceEqDiff, Nat.reduceAdd, Nat.reduceLT, ↓us_imeeting, r_imeeting, hliI, hliJ, hq4.facts, a4, hlk, hD]
        refine ⟨by omega, m_bsl (one_el rfl) ?_⟩
        rintro b5 w5 hb5 hblk5 hx5 hs5
        have hx5 : Ext w4 w5 := by first | exact hx5 | exact ud hx5 | exact ud (ud hx5)
        simp only [↓vsd, vsn, gW, qd, qv, ev, pick, argE, zipE, ne_eq, eq_self, forall_const, implies_true, if_true, if_false, reduceIte, reduceCtorEq, Nat.reduceEqDiff, Nat.reduceAdd, Nat.reduceLT, ↓us_imeeting, r_imeeting]
        refine m_app (ho4.ext hx5) (Sq.one fS_len hblk5 rfl) fS_one (by decide) (by rw [List.length_singleton]; omega) (by decide) (hx4.trans hx5).size ?_
        rintro x6 w6 ho6 hg6
        have hx6 := (ho4.ext hx5).grown (hx4.trans hx5) (Nat.le_refl _) hg6
        have hs6 := (hs4.ext hx5).grown hg6 ((hs4.ext hx5).apart (ho4.ext hx5))
        simp only [↓vsd, vsn, gW, qd, qv, ev, pick, argE, zipE, ne_eq, eq_self, forall_const, implies_true, if_true, if_false, reduceIte, reduceCtorEq, Nat.reduceEqDiff, Nat.reduceAdd, Nat.reduceLT, ↓us_imeeting, r_imeeting]
        exact ⟨inR_i64 (by omega), UpTo.next hli ⟨x6, rfl, ho6.to hsn.symm, hs6, hx6⟩⟩
      · have hD : decide (r ∈ L) = false := decide_eq_false fun hh => hin (hrl.1 hh)
        rw [if_neg hin, List.append_nil] at hsn
        simp only [↓vsd, vsn, gW, qd, qv, ev, pick, argE, zipE, ne_eq, eq_self, forall_const, implies_true, if_true, if_false, reduceIte, reduceCtorEq, Nat.reduceEqDiff, Nat.reduceAdd, Nat.reduceLT, ↓us_imeeting, r_imeeting, hliI, hliJ, hq4.facts, a4, hlk, hD]
        exact ⟨by omega, inR_i64 (by omega), UpTo.next hli ⟨x, rfl, by first | exact ho4.to hsn.symm | exact (ho4.to hsn.symm).ext (dr (Ext.refl _)), by first | exact hs4 | exact hs4.ext (dr (Ext.refl _)), by first | exact hx4 | exact dr hx4⟩⟩
    · obtain rfl : i = a.length := by omega
      have hliI : ¬ (a.length : Int) < a.length := by omega
      rw [List.take_length] at ho4
      simp only [↓vsd, vsn, gW, qd, qv, ev, pick, argE, zipE, ne_eq, eq_self, forall_const, implies_true, if_true, if_false, reduceIte, reduceCtorEq, Nat.reduceEqDiff, Nat.reduceAdd, Nat.reduceLT, ↓us_imeeting, r_imeeting, hliI]
      exact ⟨hx4, ho4⟩
def stgM (l : List Bs) : Nat := (l.getD 0 []).length
def MeetOk (a b : List Bs) : Prop := IsRows a ∧ IsRows b ∧ (0 < a.length ∧ 0 < b.length → stgM a = stgM b)
instance (a b : List Bs) : Decidable (MeetOk a b) := by unfold MeetOk IsRows; infer_instance
def meetV (a b : List Bs) : List Bs := if MeetOk a b then meetL a b else []
theorem iMeetIn_ok (v u : Value) (a b : List Bs) (ha : a.length ≤ 1000000000) (hb : b.length ≤ 1000000000) (w : World) (h : Sq fS 1 w v a) (h' : Sq fS 1 w u b) : Fn 53 [v, u] w (fun r w' => ∃ y, r = .tuple ⟨[y, .bool (decide (MeetOk a b))]⟩ ∧ Own fS 1 9 w.heap.size w' y (meetV a b)) := by
  have hno : ¬ MeetOk a b → ∀ w', ∃ y, Value.tuple ⟨[.slice none 0 0, .bool false]⟩ = .tuple ⟨[y, .bool (decide (MeetOk a b))]⟩ ∧ Own fS 1 9 w.heap.size w' y (meetV a b) := fun hn w' =>
    ⟨_, by rw [decide_eq_false hn], by rw [meetV, if_neg hn]; exact Own.nil fS_len⟩
  (refine callsV_of mix Try.func53 c_iMeetIn ?_; simp only [↓vsd, vsn, gW, qd, qv, ev, pick, argE, zipE, ne_eq, eq_self, forall_const, implies_true, if_true, if_false, reduceIte, reduceCtorEq, Nat.reduceEqDiff, Nat.reduceAdd, Nat.reduceLT, ↓us_iMeetIn, r_iMeetIn])
  refine m_call (iGoodRows_ok v a ha _ h) ?_
  rintro _ w1 hx1 rfl
  have hx1 : Ext w w1 := by first | exact hx1 | exact ud hx1 | exact ud (ud hx1)
  by_cases hra : IsRows a
  · simp only [↓vsd, vsn, gW, qd, qv, ev, pick, argE, zipE, ne_eq, eq_self, forall_const, implies_true, if_true, if_false, reduceIte, reduceCtorEq, Nat.reduceEqDiff, Nat.reduceAdd, Nat.reduceLT, ↓us_iMeetIn, r_iMeetIn, hra]
    refine m_call (iGoodRows_ok u b hb _ (by first | exact h'.ext hx1 | exact (h'.ext hx1).ext (dr (Ext.refl _)))) ?_
    rintro _ w2 hx2 rfl
    have hx2 : Ext w1 w2 := by first | exact hx2 | exact ud hx2 | exact ud (ud hx2)
    have hx02 := hx1.trans hx2
    by_cases hrb : IsRows b
    · have ha8 := hra.2
      have hb8 := hrb.2
      by_cases ha0 : 0 < a.length
      · have haI : (0 : Int) < a.length := by omega
        have aa := h.at0 [] ha0
        by_cases hb0 : 0 < b.length
        · have hbI : (0 : Int) < b.length := by omega
          have ab := h'.at0 [] hb0
          by_cases he : stgM a = stgM b
          · have heI : ((a.getD 0 []).length : Int) = ((b.getD 0 []).length : Int) := by unfold stgM at he; omega
            have hok : MeetOk a b := ⟨hra, hrb, fun _ => he⟩
            simp only [↓vsd, vsn, gW, qd, qv, ev, pick, argE, zipE, ne_eq, eq_self, forall_const, implies_true, if_true, if_false, reduceIte, reduceCtorEq, Nat.reduceEqDiff, Nat.reduceAdd, Nat.reduceLT, ↓us_iMeetIn, r_iMeetIn, hra, hrb, h.facts, h'.facts, haI, hbI, aa, ab, heI]
            refine ⟨by omega, by omega, ?_⟩
            refine m_call (imeeting_ok v u a b (by omega) (by omega) _ (by first | exact h.ext hx02 | exact (h.ext hx02).ext (dr (Ext.refl _))) (by first | exact h'.ext hx02 | exact (h'.ext hx02).ext (dr (Ext.refl _)))) ?_
            rintro y w3 hx3 ho3
            have hx3 : Ext w2 w3 := by first | exact hx3 | exact ud hx3 | exact ud (ud hx3)
            simp only [↓vsd, vsn, gW, qd, qv, ev, pick, argE, zipE, ne_eq, eq_self, forall_const, implies_true, if_true, if_false, reduceIte, reduceCtorEq, Nat.reduceEqDiff, Nat.reduceAdd, Nat.reduceLT, ↓us_iMeetIn, r_iMeetIn]
            exact ⟨hx02.trans hx3, y, by rw [decide_eq_true hok], by rw [meetV, if_pos hok]; exact ho3.mono hx02.size⟩
          · have heI : ¬ ((a.getD 0 []).length : Int) = ((b.getD 0 []).length : Int) := by unfold stgM at he; omega
            simp only [↓vsd, vsn, gW, qd, qv, ev, pick, argE, zipE, ne_eq, eq_self, forall_const, implies_true, if_true, if_false, reduceIte, reduceCtorEq, Nat.reduceEqDiff, Nat.reduceAdd, Nat.reduceLT, ↓us_iMeetIn, r_iMeetIn, hra, hrb, h.facts, h'.facts, haI, hbI, aa, ab, heI]
            exact ⟨by omega, by omega, hx02, hno (fun hh => he (hh.2.2 ⟨ha0, hb0⟩)) _⟩
        · have hbI : ¬ (0 : Int) < b.length := by omega
          have hok : MeetOk a b := ⟨hra, hrb, fun hh => absurd hh.2 hb0⟩
          simp only [↓vsd, vsn, gW, qd, qv, ev, pick, argE, zipE, ne_eq, eq_self, forall_const, implies_true, if_true, if_false, reduceIte, reduceCtorEq, Nat.reduceEqDiff, Nat.reduceAdd, Nat.reduceLT, ↓us_iMeetIn, r_iMeetIn, hra, hrb, h.facts, h'.facts, haI, hbI]
          refine m_call (imeeting_ok v u a b (by omega) (by omega) _ (by first | exact h.ext hx02 | exact (h.ext hx02).ext (dr (Ext.refl _))) (by first | exact h'.ext hx02 | exact (h'.ext hx02).ext (dr (Ext.refl _)))) ?_
          rintro y w3 hx3 ho3
          have hx3 : Ext w2 w3 := by first | exact hx3 | exact ud hx3 | exact ud (ud hx3)
          simp only [↓vsd, vsn, gW, qd, qv, ev, pick, argE, zipE, ne_eq, eq_self, forall_const, implies_true, if_true, if_false, reduceIte, reduceCtorEq, Nat.reduceEqDiff, Nat.reduceAdd, Nat.reduceLT, ↓us_iMeetIn, r_iMeetIn]
          exact ⟨hx02.trans hx3, y, by rw [decide_eq_true hok], by rw [meetV, if_pos hok]; exact ho3.mono hx02.size⟩
      · have haI : ¬ (0 : Int) < a.length := by omega
        have hok : MeetOk a b := ⟨hra, hrb, fun hh => absurd hh.1 ha0⟩
        simp only [↓vsd, vsn, gW, qd, qv, ev, pick, argE, zipE, ne_eq, eq_self, forall_const, implies_true, if_true, if_false, reduceIte, reduceCtorEq, Nat.reduceEqDiff, Nat.reduceAdd, Nat.reduceLT, ↓us_iMeetIn, r_iMeetIn, hra, hrb, h.facts, h'.facts, haI]
        refine m_call (imeeting_ok v u a b (by omega) (by omega) _ (by first | exact h.ext hx02 | exact (h.ext hx02).ext (dr (Ext.refl _))) (by first | exact h'.ext hx02 | exact (h'.ext hx02).ext (dr (Ext.refl _)))) ?_
        rintro y w3 hx3 ho3
        have hx3 : Ext w2 w3 := by first | exact hx3 | exact ud hx3 | exact ud (ud hx3)
        simp only [↓vsd, vsn, gW, qd, qv, ev, pick, argE, zipE, ne_eq, eq_self, forall_const, implies_true, if_true, if_false, reduceIte, reduceCtorEq, Nat.reduceEqDiff, Nat.reduceAdd, Nat.reduceLT, ↓us_iMeetIn, r_iMeetIn]
        exact ⟨hx02.trans hx3, y, by rw [decide_eq_true hok], by rw [meetV, if_pos hok]; exact ho3.mono hx02.size⟩
    · simp only [↓vsd, vsn, gW, qd, qv, ev, pick, argE, zipE, ne_eq, eq_self, forall_const, implies_true, if_true, if_false, reduceIte, reduceCtorEq, Nat.reduceEqDiff, Nat.reduceAdd, Nat.reduceLT, ↓us_iMeetIn, r_iMeetIn, hrb]
      exact ⟨hx02, hno (fun hh => hrb hh.2.1) _⟩
  · simp only [↓vsd, vsn, gW, qd, qv, ev, pick, argE, zipE, ne_eq, eq_self, forall_const, implies_true, if_true, if_false, reduceIte, reduceCtorEq, Nat.reduceEqDiff, Nat.reduceAdd, Nat.reduceLT, ↓us_iMeetIn, r_iMeetIn, hra]
    exact ⟨hx1, hno (fun hh => hra hh.1) _⟩
theorem sMeetIn_ok (v u : Value) (a b : List Bs) (ha : a.length ≤ 1000000000) (hb : b.length ≤ 1000000000) (w : World) (h : Sq fS 1 w v a) (h' : Sq fS 1 w u b) : Fn 54 [v, u] w (fun r w' => ∃ y, r = .tuple ⟨[y, .bool (decide (MeetOk a b))]⟩ ∧ Own fS 1 9 w.heap.size w' y (meetV a b)) := by
  have hno : ¬ MeetOk a b → ∀ w', ∃ y, Value.tuple ⟨[.slice none 0 0, .bool false]⟩ = .tuple ⟨[y, .bool (decide (MeetOk a b))]⟩ ∧ Own fS 1 9 w.heap.size w' y (meetV a b) := fun hn w' =>
    ⟨_, by rw [decide_eq_false hn], by rw [meetV, if_neg hn]; exact Own.nil fS_len⟩
  (refine callsV_of mix Try.func54 c_sMeetIn ?_; simp only [↓vsd, vsn, gW, qd, qv, ev, pick, argE, zipE, ne_eq, eq_self, forall_const, implies_true, if_true, if_false, reduceIte, reduceCtorEq, Nat.reduceEqDiff, Nat.reduceAdd, Nat.reduceLT, ↓us_sMeetIn, r_sMeetIn])
  refine m_call (sl6Rows_ok v a ha _ h) ?_
  rintro _ w1 hx1 rfl
  have hx1 : Ext w w1 := by first | exact hx1 | exact ud hx1 | exact ud (ud hx1)
  by_cases hra : IsRows a
  · simp only [↓vsd, vsn, gW, qd, qv, ev, pick, argE, zipE, ne_eq, eq_self, forall_const, implies_true, if_true, if_false, reduceIte, reduceCtorEq, Nat.reduceEqDiff, Nat.reduceAdd, Nat.reduceLT, ↓us_sMeetIn, r_sMeetIn, hra]
    refine m_call (sl6Rows_ok u b hb _ (by first | exact h'.ext hx1 | exact (h'.ext hx1).ext (dr (Ext.refl _)))) ?_
    rintro _ w2 hx2 rfl
    have hx2 : Ext w1 w2 := by first | exact hx2 | exact ud hx2 | exact ud (ud hx2)
    have hx02 := hx1.trans hx2
    by_cases hrb : IsRows b
    · have ha8 := hra.2
      have hb8 := hrb.2
      by_cases ha0 : 0 < a.length
      · have haI : (0 : Int) < a.length := by omega
        have aa := h.at0 [] ha0
        by_cases hb0 : 0 < b.length
        · have hbI : (0 : Int) < b.length := by omega
          have ab := h'.at0 [] hb0
          by_cases he : stgM a = stgM b
          · have heI : ((a.getD 0 []).length : Int) = ((b.getD 0 []).length : Int) := by unfold stgM at he; omega
            have hok : MeetOk a b := ⟨hra, hrb, fun _ => he⟩
            simp only [↓vsd, vsn, gW, qd, qv, ev, pick, argE, zipE, ne_eq, eq_self, forall_const, implies_true, if_true, if_false, reduceIte, reduceCtorEq, Nat.reduceEqDiff, Nat.reduceAdd, Nat.reduceLT, ↓us_sMeetIn, r_sMeetIn, hra, hrb, h.facts, h'.facts, haI, hbI, aa, ab, heI]
            refine ⟨by omega, by omega, ?_⟩
            refine m_upto a.length (fun i vs w' => ∃ x, vs = [x, .int .i64 i] ∧ Own fS 1 9 w.heap.size w' x (meetL (a.take i) b) ∧ Ext w w') ⟨_, rfl, Own.nil fS_len, by first | exact hx02 | exact dr hx02⟩ ?_
            rintro i vs w4 hi ⟨x, rfl, ho4, hx4⟩
            have hq4 := h.ext hx4
            by_cases hli : i < a.length
            · have hliI : (i : Int) < a.length := by omega
              have hliJ : ¬ (a.length : Int) ≤ i := by omega
              have a4 := hq4.at1 [] hli
              have hsn := meet_snoc (b := b) hli
              have hml := meet_len (a.take i) b
              rw [List.length_take] at hml
              generalize a.getD i [] = r at *
              simp only [↓vsd, vsn, gW, qd, qv, ev, pick, argE, zipE, ne_eq, eq_self, forall_const, implies_true, if_true, if_false, reduceIte, reduceCtorEq, Nat.reduceEqDiff, Nat.reduceAdd, Nat.reduceLT, ↓us_sMeetIn, r_sMeetIn, hliI, hliJ, hq4.facts, a4]
              refine ⟨by omega, m_call (sl1HasS_okq u b r (by omega) _ (by first | exact h'.ext hx4 | exact (h'.ext hx4).ext (dr (Ext.refl _)))) ?_⟩
              rintro _ w5 hx5 rfl
              have hx5 : Ext w4 w5 := by first | exact hx5 | exact ud hx5 | exact ud (ud hx5)
              have hx05 := hx4.trans hx5
              have ho5 := ho4.ext hx5
              by_cases hin : r ∈ b
              · have hD : decide (r ∈ b) = true := decide_eq_true hin
                rw [if_pos hin] at hsn
                simp only [↓vsd, vsn, gW, qd, qv, ev, pick, argE, zipE, ne_eq, eq_self, forall_const, implies_true, if_true, if_false, reduceIte, reduceCtorEq, Nat.reduceEqDiff, Nat.reduceAdd, Nat.reduceLT, ↓us_sMeetIn, r_sMeetIn, hD]
                refine m_bsl (one_el rfl) ?_
                rintro b6 w6 hb6 hblk6 hx6 hs6
                have hx6 : Ext w5 w6 := by first | exact hx6 | exact ud hx6 | exact ud (ud hx6)
                simp only [↓vsd, vsn, gW, qd, qv, ev, pick, argE, zipE, ne_eq, eq_self, forall_const, implies_true, if_true, if_false, reduceIte, reduceCtorEq, Nat.reduceEqDiff, Nat.reduceAdd, Nat.reduceLT, ↓us_sMeetIn, r_sMeetIn]
                refine m_app (ho5.ext hx6) (Sq.one fS_len hblk6 rfl) fS_one (by decide) (by rw [List.length_singleton]; omega) (by decide) (hx05.trans hx6).size ?_
                rintro x7 w7 ho7 hg7
                have hx7 := (ho5.ext hx6).grown (hx05.trans hx6) (Nat.le_refl _) hg7
                simp only [↓vsd, vsn, gW, qd, qv, ev, pick, argE, zipE, ne_eq, eq_self, forall_const, implies_true, if_true, if_false, reduceIte, reduceCtorEq, Nat.reduceEqDiff, Nat.reduceAdd, Nat.reduceLT, ↓us_sMeetIn, r_sMeetIn]
                exact ⟨inR_i64 (by omega), UpTo.next hli ⟨x7, rfl, ho7.to hsn.symm, hx7⟩⟩
              · have hD : decide (r ∈ b) = false := decide_eq_false hin
                rw [if_neg hin, List.append_nil] at hsn
                simp only [↓vsd, vsn, gW, qd, qv, ev, pick, argE, zipE, ne_eq, eq_self, forall_const, implies_true, if_true, if_false, reduceIte, reduceCtorEq, Nat.reduceEqDiff, Nat.reduceAdd, Nat.reduceLT, ↓us_sMeetIn, r_sMeetIn, hD]
                exact ⟨inR_i64 (by omega), UpTo.next hli ⟨x, rfl, by first | exact ho5.to hsn.symm | exact (ho5.to hsn.symm).ext (dr (Ext.refl _)), by first | exact hx05 | exact dr hx05⟩⟩
            · obtain rfl : i = a.length := by omega
              have hliI : ¬ (a.length : Int) < a.length := by omega
              rw [List.take_length] at ho4
              simp only [↓vsd, vsn, gW, qd, qv, ev, pick, argE, zipE, ne_eq, eq_self, forall_const, implies_true, if_true, if_false, reduceIte, reduceCtorEq, Nat.reduceEqDiff, Nat.reduceAdd, Nat.reduceLT, ↓us_sMeetIn, r_sMeetIn, hliI]
              exact ⟨hx4, x, by rw [decide_eq_true hok], by rw [meetV, if_pos hok]; exact ho4⟩
          · have heI : ¬ ((a.getD 0 []).length : Int) = ((b.getD 0 []).length : Int) := by unfold stgM at he; omega
            simp only [↓vsd, vsn, gW, qd, qv, ev, pick, argE, zipE, ne_eq, eq_self, forall_const, implies_true, if_true, if_false, reduceIte, reduceCtorEq, Nat.reduceEqDiff, Nat.reduceAdd, Nat.reduceLT, ↓us_sMeetIn, r_sMeetIn, hra, hrb, h.facts, h'.facts, haI, hbI, aa, ab, heI]
            exact ⟨by omega, by omega, hx02, hno (fun hh => he (hh.2.2 ⟨ha0, hb0⟩)) _⟩
        · have hbI : ¬ (0 : Int) < b.length := by omega
          have hok : MeetOk a b := ⟨hra, hrb, fun hh => absurd hh.2 hb0⟩
          simp only [↓vsd, vsn, gW, qd, qv, ev, pick, argE, zipE, ne_eq, eq_self, forall_const, implies_true, if_true, if_false, reduceIte, reduceCtorEq, Nat.reduceEqDiff, Nat.reduceAdd, Nat.reduceLT, ↓us_sMeetIn, r_sMeetIn, hra, hrb, h.facts, h'.facts, haI, hbI]
          refine m_upto a.length (fun i vs w' => ∃ x, vs = [x, .int .i64 i] ∧ Own fS 1 9 w.heap.size w' x (meetL (a.take i) b) ∧ Ext w w') ⟨_, rfl, Own.nil fS_len, by first | exact hx02 | exact dr hx02⟩ ?_
          rintro i vs w4 hi ⟨x, rfl, ho4, hx4⟩
          have hq4 := h.ext hx4
          by_cases hli : i < a.length
          · have hliI : (i : Int) < a.length := by omega
            have hliJ : ¬ (a.length : Int) ≤ i := by omega
            have a4 := hq4.at1 [] hli
            have hsn := meet_snoc (b := b) hli
            have hml := meet_len (a.take i) b
            rw [List.length_take] at hml
            generalize a.getD i [] = r at *
            simp only [↓vsd, vsn, gW, qd, qv, ev, pick, argE, zipE, ne_eq, eq_self, forall_const, implies_true, if_true, if_false, reduceIte, reduceCtorEq, Nat.reduceEqDiff, Nat.reduceAdd, Nat.reduceLT, ↓us_sMeetIn, r_sMeetIn, hliI, hliJ, hq4.facts, a4]
            refine ⟨by omega, m_call (sl1HasS_okq u b r (by omega) _ (by first | exact h'.ext hx4 | exact (h'.ext hx4).ext (dr (Ext.refl _)))) ?_⟩
            rintro _ w5 hx5 rfl
            have hx5 : Ext w4 w5 := by first | exact hx5 | exact ud hx5 | exact ud (ud hx5)
            have hx05 := hx4.trans hx5
            have ho5 := ho4.ext hx5
            by_cases hin : r ∈ b
            · have hD : decide (r ∈ b) = true := decide_eq_true hin
              rw [if_pos hin] at hsn
              simp only [↓vsd, vsn, gW, qd, qv, ev, pick, argE, zipE, ne_eq, eq_self, forall_const, implies_true, if_true, if_false, reduceIte, reduceCtorEq, Nat.reduceEqDiff, Nat.reduceAdd, Nat.reduceLT, ↓us_sMeetIn, r_sMeetIn, hD]
              refine m_bsl (one_el rfl) ?_
              rintro b6 w6 hb6 hblk6 hx6 hs6
              have hx6 : Ext w5 w6 := by first | exact hx6 | exact ud hx6 | exact ud (ud hx6)
              simp only [↓vsd, vsn, gW, qd, qv, ev, pick, argE, zipE, ne_eq, eq_self, forall_const, implies_true, if_true, if_false, reduceIte, reduceCtorEq, Nat.reduceEqDiff, Nat.reduceAdd, Nat.reduceLT, ↓us_sMeetIn, r_sMeetIn]
              refine m_app (ho5.ext hx6) (Sq.one fS_len hblk6 rfl) fS_one (by decide) (by rw [List.length_singleton]; omega) (by decide) (hx05.trans hx6).size ?_
              rintro x7 w7 ho7 hg7
              have hx7 := (ho5.ext hx6).grown (hx05.trans hx6) (Nat.le_refl _) hg7
              simp only [↓vsd, vsn, gW, qd, qv, ev, pick, argE, zipE, ne_eq, eq_self, forall_const, implies_true, if_true, if_false, reduceIte, reduceCtorEq, Nat.reduceEqDiff, Nat.reduceAdd, Nat.reduceLT, ↓us_sMeetIn, r_sMeetIn]
              exact ⟨inR_i64 (by omega), UpTo.next hli ⟨x7, rfl, ho7.to hsn.symm, hx7⟩⟩
            · have hD : decide (r ∈ b) = false := decide_eq_false hin
              rw [if_neg hin, List.append_nil] at hsn
              simp only [↓vsd, vsn, gW, qd, qv, ev, pick, argE, zipE, ne_eq, eq_self, forall_const, implies_true, if_true, if_false, reduceIte, reduceCtorEq, Nat.reduceEqDiff, Nat.reduceAdd, Nat.reduceLT, ↓us_sMeetIn, r_sMeetIn, hD]
              exact ⟨inR_i64 (by omega), UpTo.next hli ⟨x, rfl, by first | exact ho5.to hsn.symm | exact (ho5.to hsn.symm).ext (dr (Ext.refl _)), by first | exact hx05 | exact dr hx05⟩⟩
          · obtain rfl : i = a.length := by omega
            have hliI : ¬ (a.length : Int) < a.length := by omega
            rw [List.take_length] at ho4
            simp only [↓vsd, vsn, gW, qd, qv, ev, pick, argE, zipE, ne_eq, eq_self, forall_const, implies_true, if_true, if_false, reduceIte, reduceCtorEq, Nat.reduceEqDiff, Nat.reduceAdd, Nat.reduceLT, ↓us_sMeetIn, r_sMeetIn, hliI]
            exact ⟨hx4, x, by rw [decide_eq_true hok], by rw [meetV, if_pos hok]; exact ho4⟩
      · have haI : ¬ (0 : Int) < a.length := by omega
        have hok : MeetOk a b := ⟨hra, hrb, fun hh => absurd hh.1 ha0⟩
        simp only [↓vsd, vsn, gW, qd, qv, ev, pick, argE, zipE, ne_eq, eq_self, forall_const, implies_true, if_true, if_false, reduceIte, reduceCtorEq, Nat.reduceEqDiff, Nat.reduceAdd, Nat.reduceLT, ↓us_sMeetIn, r_sMeetIn, hra, hrb, h.facts, h'.facts, haI]
        refine m_upto a.length (fun i vs w' => ∃ x, vs = [x, .int .i64 i] ∧ Own fS 1 9 w.heap.size w' x (meetL (a.take i) b) ∧ Ext w w') ⟨_, rfl, Own.nil fS_len, by first | exact hx02 | exact dr hx02⟩ ?_
        rintro i vs w4 hi ⟨x, rfl, ho4, hx4⟩
        have hq4 := h.ext hx4
        by_cases hli : i < a.length
        · have hliI : (i : Int) < a.length := by omega
          have hliJ : ¬ (a.length : Int) ≤ i := by omega
          have a4 := hq4.at1 [] hli
          have hsn := meet_snoc (b := b) hli
          have hml := meet_len (a.take i) b
          rw [List.length_take] at hml
          generalize a.getD i [] = r at *
          simp only [↓vsd, vsn, gW, qd, qv, ev, pick, argE, zipE, ne_eq, eq_self, forall_const, implies_true, if_true, if_false, reduceIte, reduceCtorEq, Nat.reduceEqDiff, Nat.reduceAdd, Nat.reduceLT, ↓us_sMeetIn, r_sMeetIn, hliI, hliJ, hq4.facts, a4]
          refine ⟨by omega, m_call (sl1HasS_okq u b r (by omega) _ (by first | exact h'.ext hx4 | exact (h'.ext hx4).ext (dr (Ext.refl _)))) ?_⟩
          rintro _ w5 hx5 rfl
          have hx5 : Ext w4 w5 := by first | exact hx5 | exact ud hx5 | exact ud (ud hx5)
          have hx05 := hx4.trans hx5
          have ho5 := ho4.ext hx5
          by_cases hin : r ∈ b
          · have hD : decide (r ∈ b) = true := decide_eq_true hin
            rw [if_pos hin] at hsn
            simp only [↓vsd, vsn, gW, qd, qv, ev, pick, argE, zipE, ne_eq, eq_self, forall_const, implies_true, if_true, if_false, reduceIte, reduceCtorEq, Nat.reduceEqDiff, Nat.reduceAdd, Nat.reduceLT, ↓us_sMeetIn, r_sMeetIn, hD]
            refine m_bsl (one_el rfl) ?_
            rintro b6 w6 hb6 hblk6 hx6 hs6
            have hx6 : Ext w5 w6 := by first | exact hx6 | exact ud hx6 | exact ud (ud hx6)
            simp only [↓vsd, vsn, gW, qd, qv, ev, pick, argE, zipE, ne_eq, eq_self, forall_const, implies_true, if_true, if_false, reduceIte, reduceCtorEq, Nat.reduceEqDiff, Nat.reduceAdd, Nat.reduceLT, ↓us_sMeetIn, r_sMeetIn]
            refine m_app (ho5.ext hx6) (Sq.one fS_len hblk6 rfl) fS_one (by decide) (by rw [List.length_singleton]; omega) (by decide) (hx05.trans hx6).size ?_
            rintro x7 w7 ho7 hg7
            have hx7 := (ho5.ext hx6).grown (hx05.trans hx6) (Nat.le_refl _) hg7
            simp only [↓vsd, vsn, gW, qd, qv, ev, pick, argE, zipE, ne_eq, eq_self, forall_const, implies_true, if_true, if_false, reduceIte, reduceCtorEq, Nat.reduceEqDiff, Nat.reduceAdd, Nat.reduceLT, ↓us_sMeetIn, r_sMeetIn]
            exact ⟨inR_i64 (by omega), UpTo.next hli ⟨x7, rfl, ho7.to hsn.symm, hx7⟩⟩
          · have hD : decide (r ∈ b) = false := decide_eq_false hin
            rw [if_neg hin, List.append_nil] at hsn
            simp only [↓vsd, vsn, gW, qd, qv, ev, pick, argE, zipE, ne_eq, eq_self, forall_const, implies_true, if_true, if_false, reduceIte, reduceCtorEq, Nat.reduceEqDiff, Nat.reduceAdd, Nat.reduceLT, ↓us_sMeetIn, r_sMeetIn, hD]
            exact ⟨inR_i64 (by omega), UpTo.next hli ⟨x, rfl, by first | exact ho5.to hsn.symm | exact (ho5.to hsn.symm).ext (dr (Ext.refl _)), by first | exact hx05 | exact dr hx05⟩⟩
        · obtain rfl : i = a.length := by omega
          have hliI : ¬ (a.length : Int) < a.length := by omega
          rw [List.take_length] at ho4
          simp only [↓vsd, vsn, gW, qd, qv, ev, pick, argE, zipE, ne_eq, eq_self, forall_const, implies_true, if_true, if_false, reduceIte, reduceCtorEq, Nat.reduceEqDiff, Nat.reduceAdd, Nat.reduceLT, ↓us_sMeetIn, r_sMeetIn, hliI]
          exact ⟨hx4, x, by rw [decide_eq_true hok], by rw [meetV, if_pos hok]; exact ho4⟩
    · simp only [↓vsd, vsn, gW, qd, qv, ev, pick, argE, zipE, ne_eq, eq_self, forall_const, implies_true, if_true, if_false, reduceIte, reduceCtorEq, Nat.reduceEqDiff, Nat.reduceAdd, Nat.reduceLT, ↓us_sMeetIn, r_sMeetIn, hrb]
      exact ⟨hx02, hno (fun hh => hrb hh.2.1) _⟩
  · simp only [↓vsd, vsn, gW, qd, qv, ev, pick, argE, zipE, ne_eq, eq_self, forall_const, implies_true, if_true, if_false, reduceIte, reduceCtorEq, Nat.reduceEqDiff, Nat.reduceAdd, Nat.reduceLT, ↓us_sMeetIn, r_sMeetIn, hra]
    exact ⟨hx1, hno (fun hh => hra hh.1) _⟩
def firstF (l : List Bs) (a : Nat) (s : Bs) : Option Nat := (List.range l.length).find? fun k => decide (a ≤ k ∧ l.getD k [] = s)
def nextF (l : List Bs) (i : Nat) : Nat := (firstF l (i + 1) (l.getD i [])).getD 0
theorem firstF_some {l : List Bs} {a p : Nat} {s : Bs} : firstF l a s = some p ↔ p < l.length ∧ (a ≤ p ∧ l.getD p [] = s) ∧ ∀ k, a ≤ k → k < p → l.getD k [] ≠ s := by
  rw [firstF, List.find?_range_eq_some]
  simp only [decide_eq_true_eq, List.mem_range, Bool.not_eq_true', decide_eq_false_iff_not]
  constructor
  · rintro ⟨h1, h2, h3⟩
    exact ⟨h2, h1, fun k hk hkp e => h3 k hkp ⟨hk, e⟩⟩
  · rintro ⟨h1, h2, h3⟩
    exact ⟨h2, h1, fun k hk hh => h3 k hh.1 hk hh.2⟩
theorem firstF_none {l : List Bs} {a : Nat} {s : Bs} : firstF l a s = none ↔ ∀ k, a ≤ k → k < l.length → l.getD k [] ≠ s := by
  rw [firstF, List.find?_eq_none]
  simp only [decide_eq_true_eq, List.mem_range]
  exact ⟨fun h k h1 h2 e => h k h2 ⟨h1, e⟩, fun h k h1 hh => h k hh.1 h1 hh.2⟩
theorem firstF_step {l : List Bs} {a : Nat} (h : a < l.length) (s : Bs) : firstF l a s = if s = l.getD a [] then some a else firstF l (a + 1) s := by
  by_cases e : s = l.getD a []
  · rw [if_pos e, firstF_some]
    exact ⟨h, ⟨Nat.le_refl _, e.symm⟩, fun k h1 h2 => by omega⟩
  · rw [if_neg e]
    cases hf : firstF l (a + 1) s with
    | none =>
      rw [firstF_none] at hf ⊢
      intro k h1 h2 e2
      by_cases hk : k = a
      · rw [hk] at e2; exact e e2.symm
      · exact hf k (by omega) h2 e2
    | some p =>
      rw [firstF_some] at hf ⊢
      refine ⟨hf.1, ⟨by omega, hf.2.1.2⟩, fun k h1 h2 e2 => ?_⟩
      by_cases hk : k = a
      · rw [hk] at e2; exact e e2.symm
      · exact hf.2.2 k (by omega) h2 e2
theorem firstF_end (l : List Bs) (s : Bs) : firstF l l.length s = none := firstF_none.2 fun k h1 h2 => by omega
theorem nextF_at (l : List Bs) (i : Nat) : NextAt l i (nextF l i) := by
  unfold nextF
  cases hf : firstF l (i + 1) (l.getD i []) with
  | none => exact .inl ⟨rfl, fun k h1 h2 => (firstF_none.1 hf) k h1 h2⟩
  | some p =>
    obtain ⟨h1, h2, h3⟩ := firstF_some.1 hf
    exact .inr ⟨h2.1, h1, h2.2, fun k h4 h5 => h3 k h4 h5⟩
/-- The places of the next equal texts, where the last j places are done. -/
def nxL (l : List Bs) (j : Nat) : List Int := (List.range l.length).map fun p => if l.length ≤ p + j then (nextF l p : Int) else 0
theorem nxL_len (l : List Bs) (j : Nat) : (nxL l j).length = l.length := by simp [nxL]
theorem nxL_get (l : List Bs) (j p : Nat) (h : p < l.length) : (nxL l j).getD p 0 = if l.length ≤ p + j then (nextF l p : Int) else 0 := by
  rw [nxL, List.getD_eq_getElem?_getD, List.getElem?_map, List.getElem?_range h]; rfl
theorem nxL_zero (l : List Bs) : nxL l 0 = List.replicate l.length 0 := by
  refine ext_getD (d := 0) (by simp [nxL]) fun i hi => ?_
  rw [nxL_len] at hi
  rw [nxL_get l 0 i hi, if_neg (by omega), List.getD_eq_getElem?_getD, List.getElem?_replicate, if_pos hi]; rfl
theorem nxL_succ {l : List Bs} {j i : Nat} (h : i + j + 1 = l.length) : nxL l (j + 1) = (nxL l j).set i (nextF l i) := by
  refine ext_getD (d := 0) (by simp [nxL]) fun p hp => ?_
  rw [nxL_len] at hp
  rw [nxL_get l (j + 1) p hp]
  by_cases e : p = i
  · subst e
    rw [if_pos (by omega), List.getD_eq_getElem?_getD, List.getElem?_set_self (by rw [nxL_len]; exact hp)]; rfl
  · rw [List.getD_eq_getElem?_getD, List.getElem?_set_ne (fun e2 => e e2.symm), ← List.getD_eq_getElem?_getD, nxL_get l j p hp]
    by_cases h2 : l.length ≤ p + j
    · rw [if_pos h2, if_pos (by omega)]
    · rw [if_neg h2, if_neg (by omega)]
theorem nxL_same {l : List Bs} {j i : Nat} (h : i + j + 1 = l.length) (h0 : nextF l i = 0) : nxL l (j + 1) = nxL l j := by
  refine ext_getD (d := 0) (by simp [nxL]) fun p hp => ?_
  rw [nxL_len] at hp
  rw [nxL_get l (j + 1) p hp, nxL_get l j p hp]
  by_cases h2 : l.length ≤ p + j
  · rw [if_pos h2, if_pos (by omega)]
  · rw [if_neg h2]
    by_cases h3 : l.length ≤ p + (j + 1)
    · obtain rfl : p = i := by omega
      rw [if_pos h3, h0]; rfl
    · rw [if_neg h3]
theorem reAt_start {l : List Bs} {i k : Nat} (h : NextAt l i k) (hi : i < l.length) : (k = 0 ∧ rePairs l i = reAt l i l.length) ∨ (i < k ∧ k < l.length ∧ l.getD k [] = l.getD i [] ∧ rePairs l i = reAt l i k) := by
  rcases h with ⟨h1, h2⟩ | ⟨h1, h2, h3, h4⟩
  · refine .inl ⟨h1, ?_⟩
    rw [reAt, reRow_skip l i (a := i + 1) (by omega) fun k h3 h4 _ => h2 k (by omega) h4, reRow_start l i (i + 1) (Nat.le_refl _), List.append_nil]
  · refine .inr ⟨h1, h2, h3, ?_⟩
    rw [reAt, reRow_skip l i (a := i + 1) (by omega) fun k h5 h6 _ => h4 k (by omega) h6, reRow_start l i (i + 1) (Nat.le_refl _), List.append_nil]
theorem reAt_next {l : List Bs} {i k k' : Nat} (hi : i < k) (hk : k < l.length) (he : l.getD k [] = l.getD i []) (h : NextAt l k k') : (k' = 0 ∧ reAt l i k ++ [[(i : Int), (k : Int)]] = reAt l i l.length) ∨ (k < k' ∧ k' < l.length ∧ l.getD k' [] = l.getD i [] ∧ reAt l i k ++ [[(i : Int), (k : Int)]] = reAt l i k') := by
  have hs : reAt l i (k + 1) = reAt l i k ++ [[(i : Int), (k : Int)]] := by rw [reAt, reRow_succ, if_pos ⟨hi, he⟩, reAt, List.append_assoc]
  rcases h with ⟨h1, h2⟩ | ⟨h1, h2, h3, h4⟩
  · refine .inl ⟨h1, ?_⟩
    rw [← hs, reAt, reAt, reRow_skip l i (a := k + 1) (b := l.length) (by omega) fun p h3 h4 _ => by rw [← he]; exact h2 p (by omega) h4]
  · refine .inr ⟨h1, h2, by rw [h3, he], ?_⟩
    rw [← hs, reAt, reAt, reRow_skip l i (a := k + 1) (b := k') (by omega) fun p h5 h6 _ => by rw [← he]; exact h4 p (by omega) h6]
theorem irepeats_ok (v : Value) (l : List Bs) (hl : l.length ≤ 1000000) (w : World) (h : Sq fS 1 w v l) : Fn 174 [v, .int .i64 100] w (fun r w' => NestU fI 3 39 w.heap.size w'.heap.size w' r (repL l)) := by
  (refine callsV_of mix Try.func174 c_irepeats ?_; simp only [↓vsd, vsn, gW, qd, qv, ev, pick, argE, zipE, ne_eq, eq_self, forall_const, implies_true, if_true, if_false, reduceIte, reduceCtorEq, Nat.reduceEqDiff, Nat.reduceAdd, Nat.reduceLT, ↓us_irepeats, r_irepeats])
  simp only [↓vsd, vsn, gW, qd, qv, ev, pick, argE, zipE, ne_eq, eq_self, forall_const, implies_true, if_true, if_false, reduceIte, reduceCtorEq, Nat.reduceEqDiff, Nat.reduceAdd, Nat.reduceLT, ↓us_irepeats, r_irepeats, h.facts]
  refine m_msl (B := w.heap.size) (0 : Int) fI_len rfl (by omega) (by decide) (Nat.le_refl _) ?_
  rintro z w1 hz1 hzb hx1
  simp only [↓vsd, vsn, gW, qd, qv, ev, pick, argE, zipE, ne_eq, eq_self, forall_const, implies_true, if_true, if_false, reduceIte, reduceCtorEq, Nat.reduceEqDiff, Nat.reduceAdd, Nat.reduceLT, ↓us_irepeats, r_irepeats]
  refine m_mkmapN ?_
  rintro m w2 hmb hm2 hx2 hs2
  have hx12 := hx1.trans hx2
  have hq2 := h.ext hx12
  have hz2 := hz1.ext hx2
  have hf0 : firstF l (l.length - 0) = fun _ => none := funext fun s => firstF_end l s
  have e1 : (l.length : Int) - 1 = ((l.length : Nat) : Int) - 1 - ((0 : Nat) : Int) := by omega
  simp only [↓vsd, vsn, gW, qd, qv, ev, pick, argE, zipE, ne_eq, eq_self, forall_const, implies_true, if_true, if_false, reduceIte, reduceCtorEq, Nat.reduceEqDiff, Nat.reduceAdd, Nat.reduceLT, ↓us_irepeats, r_irepeats, hq2.facts]
  refine ⟨inR_i64 (by omega), ?_⟩
  refine m_upto l.length (fun j vs w' => vs = [.int .i64 ((l.length : Int) - 1 - j)] ∧ Own fI 1 3 w.heap.size w' z (nxL l j) ∧ MapN w' m (firstF l (l.length - j)) ∧ Ext w w') ⟨by rw [e1]; simp, by rw [nxL_zero]; exact hz2, by rw [hf0]; exact hm2, hx12⟩ ?_
  rintro j vs w3 hj ⟨rfl, hz3, hm3, hx3⟩
  have hq3 := h.ext hx3
  by_cases hlt : j < l.length
  · obtain ⟨i, hi⟩ : ∃ i, i + j + 1 = l.length := ⟨l.length - 1 - j, by omega⟩
    have ei : (l.length : Int) - 1 - j = (i : Nat) := by omega
    have hil : i < l.length := by omega
    have a3 := hq3.at1 [] hil
    have hlk := hm3.look (l.getD i [])
    have hst := firstF_step hil
    have hnf : nextF l i = (firstF l (i + 1) (l.getD i [])).getD 0 := rfl
    have hsu := nxL_succ hi
    have hsa := nxL_same hi
    have hnl := nxL_len l j
    rw [show l.length - j = i + 1 by omega] at hlk hm3
    generalize hgs : l.getD i [] = s at *
    have h0I : (0 : Int) ≤ (i : Nat) := by omega
    have ei1 : ((i : Nat) : Int) - 1 = (l.length : Int) - 1 - ((j + 1 : Nat) : Int) := by omega
    rw [ei]
    cases hf : firstF l (i + 1) s with
    | none =>
      rw [hf] at hlk hnf
      have hfs : (fun t => if t = s then some i else firstF l (i + 1) t) = firstF l i := funext fun t => (hst t).symm
      have hn0 : nextF l i = 0 := hnf
      simp only [↓vsd, vsn, gW, qd, qv, ev, pick, argE, zipE, ne_eq, eq_self, forall_const, implies_true, if_true, if_false, reduceIte, reduceCtorEq, Nat.reduceEqDiff, Nat.reduceAdd, Nat.reduceLT, ↓us_irepeats, r_irepeats, h0I, hq3.facts, a3, hlk]
      refine ⟨by omega, by omega, m_putN hm3 ?_⟩
      rintro w4 hm4 hu4
      have hx4 : Ext w w4 := hu4.below hx3 (by have := hx1.size; omega)
      rw [hfs] at hm4
      simp only [↓vsd, vsn, gW, qd, qv, ev, pick, argE, zipE, ne_eq, eq_self, forall_const, implies_true, if_true, if_false, reduceIte, reduceCtorEq, Nat.reduceEqDiff, Nat.reduceAdd, Nat.reduceLT, ↓us_irepeats, r_irepeats, ei1]
      exact ⟨inR_i64 (by omega), UpTo.next hlt ⟨rfl, by rw [hsa hn0]; exact hz3.upd hu4 (hm3.apart hz3), by rw [show l.length - (j + 1) = i by omega]; exact hm4, hx4⟩⟩
    | some p =>
      rw [hf] at hlk hnf
      have hfs : (fun t => if t = s then some i else firstF l (i + 1) t) = firstF l i := funext fun t => (hst t).symm
      have hnp : nextF l i = p := hnf
      rw [hnp] at hsu
      simp only [↓vsd, vsn, gW, qd, qv, ev, pick, argE, zipE, ne_eq, eq_self, forall_const, implies_true, if_true, if_false, reduceIte, reduceCtorEq, Nat.reduceEqDiff, Nat.reduceAdd, Nat.reduceLT, ↓us_irepeats, r_irepeats, h0I, hq3.facts, a3, hlk]
      refine ⟨by omega, by rw [hz3.sq.facts.2.2.2]; omega, m_set1 i (p : Int) hz3 rfl (by omega) rfl fI_one ?_⟩
      rintro w4 hz4 hg4 _
      have hx4 := hz3.grown hx3 (Nat.le_refl _) hg4
      have hm4 := hm3.grown hg4 (hm3.apart hz3)
      have hq4 := h.ext hx4
      have hl4 := hq4.at1 [] hil
      rw [hgs] at hl4
      simp only [↓vsd, vsn, gW, qd, qv, ev, pick, argE, zipE, ne_eq, eq_self, forall_const, implies_true, if_true, if_false, reduceIte, reduceCtorEq, Nat.reduceEqDiff, Nat.reduceAdd, Nat.reduceLT, ↓us_irepeats, r_irepeats, hq4.facts, hl4]
      refine ⟨by omega, m_putN hm4 ?_⟩
      rintro w5 hm5 hu5
      have hx5 : Ext w w5 := hu5.below hx4 (by have := hx1.size; omega)
      rw [hfs] at hm5
      simp only [↓vsd, vsn, gW, qd, qv, ev, pick, argE, zipE, ne_eq, eq_self, forall_const, implies_true, if_true, if_false, reduceIte, reduceCtorEq, Nat.reduceEqDiff, Nat.reduceAdd, Nat.reduceLT, ↓us_irepeats, r_irepeats, ei1]
      exact ⟨inR_i64 (by omega), UpTo.next hlt ⟨rfl, by rw [hsu]; exact hz4.upd hu5 (hm4.apart hz4), by rw [show l.length - (j + 1) = i by omega]; exact hm5, hx5⟩⟩
  · obtain rfl : j = l.length := by omega
    have hneg : ¬ (0 : Int) ≤ (l.length : Int) - 1 - (l.length : Nat) := by omega
    simp only [↓vsd, vsn, gW, qd, qv, ev, pick, argE, zipE, ne_eq, eq_self, forall_const, implies_true, if_true, if_false, reduceIte, reduceCtorEq, Nat.reduceEqDiff, Nat.reduceAdd, Nat.reduceLT, ↓us_irepeats, r_irepeats, hneg]
    refine m_bsl (by simp) ?_
    rintro b4 w4 hb4 hblk4 hx4 hs4
    have hx34 := hx3.trans hx4
    have hq4 := h.ext hx34
    have hz4 := hz3.sq.ext hx4
    simp only [↓vsd, vsn, gW, qd, qv, ev, pick, argE, zipE, ne_eq, eq_self, forall_const, implies_true, if_true, if_false, reduceIte, reduceCtorEq, Nat.reduceEqDiff, Nat.reduceAdd, Nat.reduceLT, ↓us_irepeats, r_irepeats, hq4.facts]
    have hN4 : NestU fI 3 39 w3.heap.size w4.heap.size w4 (.slice (some ⟨b4, 0, none⟩) 0 0) ([] : List (List Int)) :=
      ⟨[], (Own.empty fSV_len hblk4 (by omega)).to rfl, (fun c hc => by
        simp only [Value.ownBlock, Option.some.injEq] at hc
        omega), rfl, fun i hi => by simp at hi⟩
    refine m_upto l.length (fun i vs w' => ∃ x, vs = [x, .int .i64 i] ∧ NestU fI 3 39 w3.heap.size w'.heap.size w' x (rePairs l i) ∧ (rePairs l i).length ≤ 100 ∧ Ext w3 w') ⟨_, rfl, hN4, by simp [rePairs], hx4⟩ ?_
    rintro i vs w5 hi ⟨x, rfl, hN5, hl5, hx5⟩
    by_cases hli : i < l.length
    · have hliI : (i : Int) < l.length := by omega
      have hliJ : ¬ (l.length : Int) ≤ i := by omega
      have hz5 := hz3.sq.ext hx5
      have az5 := hz5.at1 0 (i := i) (by rw [nxL_len]; exact hli)
      rw [nxL_get l _ i hli, if_pos (by omega)] at az5
      have hnl := nxL_len l l.length
      have hst := reAt_start (nextF_at l i) hli
      simp only [↓vsd, vsn, gW, qd, qv, ev, pick, argE, zipE, ne_eq, eq_self, forall_const, implies_true, if_true, if_false, reduceIte, reduceCtorEq, Nat.reduceEqDiff, Nat.reduceAdd, Nat.reduceLT, ↓us_irepeats, r_irepeats, hliI, hliJ, hz5.facts, az5]
      refine ⟨by omega, ?_⟩
      refine m_loop (fun q vs w' => ∃ (x : Value) (L : List (List Int)) (k : Nat), vs = [x, .int .i64 k] ∧ NestU fI 3 39 w3.heap.size w'.heap.size w' x L ∧ L.length ≤ 100 ∧ Ext w3 w' ∧ ((k = 0 ∧ L = reAt l i l.length) ∨ (i < k ∧ k < l.length ∧ l.getD k [] = l.getD i [] ∧ L = reAt l i k ∧ q = l.length - k))) (l.length - nextF l i) ⟨x, rePairs l i, nextF l i, rfl, hN5, hl5, hx5, ?_⟩ ?_
      · rcases hst with ⟨h1, h2⟩ | ⟨h1, h2, h3, h4⟩
        · exact .inl ⟨h1, h2⟩
        · exact .inr ⟨h1, h2, h3, h4, rfl⟩
      rintro q vs w6 ⟨x6, L, k, rfl, hN6, hl6, hx6, hcase⟩
      have hz6 := hz3.sq.ext hx6
      rcases hcase with ⟨rfl, rfl⟩ | ⟨hik, hkl, hke, rfl, rfl⟩
      · have h0I : ¬ (0 : Int) < ((0 : Nat) : Int) := by decide
        simp only [↓vsd, vsn, gW, qd, qv, ev, pick, argE, zipE, ne_eq, eq_self, forall_const, implies_true, if_true, if_false, reduceIte, reduceCtorEq, Nat.reduceEqDiff, Nat.reduceAdd, Nat.reduceLT, ↓us_irepeats, r_irepeats, h0I]
        exact ⟨inR_i64 (by omega), UpTo.next hli ⟨x6, rfl, by rw [rePairs_succ]; exact hN6, by rw [rePairs_succ]; exact hl6, hx6⟩⟩
      · have h0I : (0 : Int) < (k : Int) := by omega
        have az6 := hz6.at1 0 (i := k) (by rw [nxL_len]; exact hkl)
        rw [nxL_get l _ k hkl, if_pos (by omega)] at az6
        have hnx := reAt_next hik hkl hke (nextF_at l k)
        by_cases hfull : (reAt l i k).length = 100
        · have hfI : ((reAt l i k).length : Int) = 100 := by omega
          simp only [↓vsd, vsn, gW, qd, qv, ev, pick, argE, zipE, ne_eq, eq_self, forall_const, implies_true, if_true, if_false, reduceIte, reduceCtorEq, Nat.reduceEqDiff, Nat.reduceAdd, Nat.reduceLT, ↓us_irepeats, r_irepeats, h0I, hN6.sq.facts, hfI]
          exact ⟨hx3.trans hx6, by rw [repL_full hli (by omega) hfull]; exact hN6.mono hx3.size (Nat.le_refl _)⟩
        · have hfI : ¬ ((reAt l i k).length : Int) = 100 := by omega
          simp only [↓vsd, vsn, gW, qd, qv, ev, pick, argE, zipE, ne_eq, eq_self, forall_const, implies_true, if_true, if_false, reduceIte, reduceCtorEq, Nat.reduceEqDiff, Nat.reduceAdd, Nat.reduceLT, ↓us_irepeats, r_irepeats, h0I, hN6.sq.facts, hfI]
          refine m_bsl (fun p hp => by simp only [List.mem_cons, List.not_mem_nil, or_false] at hp; rcases hp with rfl | rfl <;> rfl) ?_
          rintro b7 w7 hb7 hblk7 hx7 hs7
          have hx7 : Ext w6 w7 := by first | exact hx7 | exact ud hx7 | exact ud (ud hx7)
          simp only [↓vsd, vsn, gW, qd, qv, ev, pick, argE, zipE, ne_eq, eq_self, forall_const, implies_true, if_true, if_false, reduceIte, reduceCtorEq, Nat.reduceEqDiff, Nat.reduceAdd, Nat.reduceLT, ↓us_irepeats, r_irepeats]
          refine m_bsl (one_el rfl) ?_
          rintro b8 w8 hb8 hblk8 hx8 hs8
          have hx8 : Ext w7 w8 := by first | exact hx8 | exact ud hx8 | exact ud (ud hx8)
          simp only [↓vsd, vsn, gW, qd, qv, ev, pick, argE, zipE, ne_eq, eq_self, forall_const, implies_true, if_true, if_false, reduceIte, reduceCtorEq, Nat.reduceEqDiff, Nat.reduceAdd, Nat.reduceLT, ↓us_irepeats, r_irepeats]
          have hx68 := hx7.trans hx8
          have hin : Own fI 1 3 w3.heap.size w8 (SV.v ⟨some ⟨b7, 0, none⟩, 2, 2⟩) [(i : Int), (k : Int)] := by
            refine ⟨fI_len, .inr ⟨b7, 2, _, rfl, by have := hx6.size; omega, hblk7.ext hx8, Nat.le_refl _, by unfold maxLen; omega, rfl, rfl⟩⟩
          refine m_pushU (hN6.ext hx68) (Sq.one (a := SV.mk (some ⟨b7, 0, none⟩) 2 2) fSV_len hblk8 rfl) hin (fun c hc => by
            simp only [SV.v, Value.ownBlock, Option.some.injEq] at hc
            omega) hx68.size (by omega) rfl (by decide) (hx6.trans hx68).size ?_
          rintro x9 w9 hN9 hg9
          have hx9 := ext_grow (hx6.trans hx68) hg9 (fun c hc => ((hN6.ext hx68).bound c hc).1)
          have hz9 := hz3.sq.ext hx9
          have az9 := hz9.at1 0 (i := k) (by rw [nxL_len]; exact hkl)
          rw [nxL_get l _ k hkl, if_pos (by omega)] at az9
          simp only [↓vsd, vsn, gW, qd, qv, ev, pick, argE, zipE, ne_eq, eq_self, forall_const, implies_true, if_true, if_false, reduceIte, reduceCtorEq, Nat.reduceEqDiff, Nat.reduceAdd, Nat.reduceLT, ↓us_irepeats, r_irepeats, hz9.facts, az9]
          have hlen9 : (reAt l i k ++ [[(i : Int), (k : Int)]]).length ≤ 100 := by simp only [List.length_append, List.length_singleton]; omega
          refine ⟨by omega, ?_⟩
          rcases hnx with ⟨h1, h2⟩ | ⟨h1, h2, h3, h4⟩
          · refine ⟨0, by omega, x9, _, nextF l k, ⟨rfl, rfl⟩, hN9, hlen9, hx9, .inl ⟨h1, h2⟩⟩
          · refine ⟨l.length - nextF l k, by omega, x9, _, nextF l k, ⟨rfl, rfl⟩, hN9, hlen9, hx9, .inr ⟨by omega, h2, h3, h4, rfl⟩⟩
    · obtain rfl : i = l.length := by omega
      have hliI : ¬ (l.length : Int) < l.length := by omega
      simp only [↓vsd, vsn, gW, qd, qv, ev, pick, argE, zipE, ne_eq, eq_self, forall_const, implies_true, if_true, if_false, reduceIte, reduceCtorEq, Nat.reduceEqDiff, Nat.reduceAdd, Nat.reduceLT, ↓us_irepeats, r_irepeats, hliI]
      exact ⟨hx3.trans hx5, by rw [repL_of hl5]; exact hN5.mono hx3.size (Nat.le_refl _)⟩
def repV (l : List Bs) : List (List Int) := if IsRows l then repL l else []
theorem repL_len (l : List Bs) : (repL l).length ≤ 100 := by rw [repL, List.length_take]; omega
theorem repL_small {l : List Bs} {x : List Int} (h : x ∈ repL l) : x.length ≤ 1000000 := by
  obtain ⟨i, k, _, _, _, rfl⟩ := repL_mem h
  simp
theorem iRepeatsIn_ok (v : Value) (l : List Bs) (hl : l.length ≤ 1000000000) (w : World) (h : Sq fS 1 w v l) : Fn 48 [v] w (fun r w' => ∃ y, r = .tuple ⟨[y, .bool (decide (IsRows l))]⟩ ∧ Sq2 fI w' y (repV l)) := by
  (refine callsV_of mix Try.func48 c_iRepeatsIn ?_; simp only [↓vsd, vsn, gW, qd, qv, ev, pick, argE, zipE, ne_eq, eq_self, forall_const, implies_true, if_true, if_false, reduceIte, reduceCtorEq, Nat.reduceEqDiff, Nat.reduceAdd, Nat.reduceLT, ↓us_iRepeatsIn, r_iRepeatsIn])
  refine m_call (iGoodRows_ok v l hl _ h) ?_
  rintro _ w1 hx1 rfl
  have hx1 : Ext w w1 := by first | exact hx1 | exact ud hx1 | exact ud (ud hx1)
  by_cases hr : IsRows l
  · simp only [↓vsd, vsn, gW, qd, qv, ev, pick, argE, zipE, ne_eq, eq_self, forall_const, implies_true, if_true, if_false, reduceIte, reduceCtorEq, Nat.reduceEqDiff, Nat.reduceAdd, Nat.reduceLT, ↓us_iRepeatsIn, r_iRepeatsIn, hr]
    refine m_call (irepeats_ok v l (by have := hr.2; omega) _ (by first | exact h.ext hx1 | exact (h.ext hx1).ext (dr (Ext.refl _)))) ?_
    rintro y w2 hx2 hN
    have hx2 : Ext w1 w2 := by first | exact hx2 | exact ud hx2 | exact ud (ud hx2)
    simp only [↓vsd, vsn, gW, qd, qv, ev, pick, argE, zipE, ne_eq, eq_self, forall_const, implies_true, if_true, if_false, reduceIte, reduceCtorEq, Nat.reduceEqDiff, Nat.reduceAdd, Nat.reduceLT, ↓us_iRepeatsIn, r_iRepeatsIn]
    exact ⟨hx1.trans hx2, y, rfl, by rw [repV, if_pos hr]; exact hN.sq⟩
  · simp only [↓vsd, vsn, gW, qd, qv, ev, pick, argE, zipE, ne_eq, eq_self, forall_const, implies_true, if_true, if_false, reduceIte, reduceCtorEq, Nat.reduceEqDiff, Nat.reduceAdd, Nat.reduceLT, ↓us_iRepeatsIn, r_iRepeatsIn, hr]
    exact ⟨hx1, _, rfl, by rw [repV, if_neg hr]; exact (NestU.nil (E1 := 3) (E2 := 39) (B := 0) (T := 0)).sq⟩
theorem reAt_succ (l : List Bs) (i k : Nat) : reAt l i (k + 1) = reAt l i k ++ if i < k ∧ l.getD k [] = l.getD i [] then [[(i : Int), (k : Int)]] else [] := by
  rw [reAt, reRow_succ, reAt, List.append_assoc]
theorem reAt_first (l : List Bs) (i : Nat) : reAt l i (i + 1) = rePairs l i := by rw [reAt, reRow_start l i (i + 1) (Nat.le_refl _), List.append_nil]
theorem reAt_more (l : List Bs) (i : Nat) {k k' : Nat} (h : k ≤ k') : reAt l i k <+: reAt l i k' := by
  obtain ⟨t, ht⟩ := reRow_pre l i h
  exact ⟨t, by rw [reAt, List.append_assoc, ht, reAt]⟩
theorem take_full {A B : List (List Int)} (h : A <+: B) (hl : (A.take 100).length = 100) : B.take 100 = A.take 100 := (pre_take h 100 (by rw [List.length_take] at hl; omega)).symm
theorem sRepeatsIn_ok (v : Value) (l : List Bs) (hl : l.length ≤ 1000000000) (w : World) (h : Sq fS 1 w v l) : Fn 49 [v] w (fun r w' => ∃ y, r = .tuple ⟨[y, .bool (decide (IsRows l))]⟩ ∧ Sq2 fI w' y (repV l)) := by
  (refine callsV_of mix Try.func49 c_sRepeatsIn ?_; simp only [↓vsd, vsn, gW, qd, qv, ev, pick, argE, zipE, ne_eq, eq_self, forall_const, implies_true, if_true, if_false, reduceIte, reduceCtorEq, Nat.reduceEqDiff, Nat.reduceAdd, Nat.reduceLT, ↓us_sRepeatsIn, r_sRepeatsIn])
  refine m_call (sl6Rows_ok v l hl _ h) ?_
  rintro _ w1 hx1 rfl
  have hx1 : Ext w w1 := by first | exact hx1 | exact ud hx1 | exact ud (ud hx1)
  by_cases hr : IsRows l
  · have h8 := hr.2
    have hq1 := h.ext hx1
    simp only [↓vsd, vsn, gW, qd, qv, ev, pick, argE, zipE, ne_eq, eq_self, forall_const, implies_true, if_true, if_false, reduceIte, reduceCtorEq, Nat.reduceEqDiff, Nat.reduceAdd, Nat.reduceLT, ↓us_sRepeatsIn, r_sRepeatsIn, hr, hq1.facts]
    refine m_upto l.length (fun i vs w' => ∃ x, vs = [x, .int .i64 i] ∧ NestU fI 3 39 w1.heap.size w'.heap.size w' x ((rePairs l i).take 100) ∧ Ext w1 w') ⟨_, rfl, by simp [rePairs]; exact NestU.nil, Ext.refl _⟩ ?_
    rintro i vs w2 hi ⟨x, rfl, hN2, hx2⟩
    have hq2 := hq1.ext hx2
    by_cases hli : i < l.length
    · have hliI : (i : Int) < l.length := by omega
      have hliJ : ¬ (l.length : Int) ≤ i := by omega
      simp only [↓vsd, vsn, gW, qd, qv, ev, pick, argE, zipE, ne_eq, eq_self, forall_const, implies_true, if_true, if_false, reduceIte, reduceCtorEq, Nat.reduceEqDiff, Nat.reduceAdd, Nat.reduceLT, ↓us_sRepeatsIn, r_sRepeatsIn, hliI, hliJ]
      refine ⟨inR_i64 (by omega), ?_⟩
      refine m_upto (l.length - (i + 1)) (fun j vs w' => ∃ x, vs = [x, .int .i64 ((i + 1 + j : Nat) : Int)] ∧ NestU fI 3 39 w1.heap.size w'.heap.size w' x ((reAt l i (i + 1 + j)).take 100) ∧ Ext w1 w') ⟨x, rfl, by rw [Nat.add_zero, reAt_first]; exact hN2, by first | exact hx2 | exact dr hx2⟩ ?_
      rintro j vs w3 hj ⟨x3, rfl, hN3, hx3⟩
      have hq3 := hq1.ext hx3
      have hl100 : ((reAt l i (i + 1 + j)).take 100).length ≤ 100 := by rw [List.length_take]; omega
      have hend : (((reAt l i (i + 1 + j)).take 100).length = 100 ∨ i + 1 + j = l.length) → (rePairs l (i + 1)).take 100 = (reAt l i (i + 1 + j)).take 100 := fun hh => by
        rw [rePairs_succ]
        rcases hh with hh | hh
        · exact take_full (reAt_more l i (show i + 1 + j ≤ l.length by omega)) hh
        · rw [hh]; rfl
      by_cases hlj : i + 1 + j < l.length
      · have hljI : ((i + 1 + j : Nat) : Int) < l.length := by omega
        by_cases hfull : ((reAt l i (i + 1 + j)).take 100).length = 100
        · have hfI : ¬ ((((reAt l i (i + 1 + j)).take 100).length : Nat) : Int) < 100 := by omega
          simp only [↓vsd, vsn, gW, qd, qv, ev, pick, argE, zipE, ne_eq, eq_self, forall_const, implies_true, if_true, if_false, reduceIte, reduceCtorEq, Nat.reduceEqDiff, Nat.reduceAdd, Nat.reduceLT, ↓us_sRepeatsIn, r_sRepeatsIn, hljI, hq3.facts, hN3.sq.facts, hfI]
          exact ⟨inR_i64 (by omega), UpTo.next hli ⟨x3, rfl, by rw [hend (.inl hfull)]; exact hN3, by first | exact hx3 | exact dr hx3⟩⟩
        · have hfI : ((((reAt l i (i + 1 + j)).take 100).length : Nat) : Int) < 100 := by omega
          have hlt100 : (reAt l i (i + 1 + j)).length < 100 := by rw [List.length_take] at hfull; omega
          have htk : (reAt l i (i + 1 + j)).take 100 = reAt l i (i + 1 + j) := List.take_of_length_le (by omega)
          have hsu := reAt_succ l i (i + 1 + j)
          have a3 := hq3.at1 [] hli
          have b3 := hq3.at1 [] hlj
          have ej : ((i + 1 + j : Nat) : Int) + 1 = ((i + 1 + (j + 1) : Nat) : Int) := by omega
          by_cases he : l.getD (i + 1 + j) [] = l.getD i []
          · rw [if_pos ⟨by omega, he⟩] at hsu
            have he' := he.symm
            simp only [↓vsd, vsn, gW, qd, qv, ev, pick, argE, zipE, ne_eq, eq_self, forall_const, implies_true, if_true, if_false, reduceIte, reduceCtorEq, Nat.reduceEqDiff, Nat.reduceAdd, Nat.reduceLT, ↓us_sRepeatsIn, r_sRepeatsIn, hljI, hq3.facts, hN3.sq.facts, hfI, a3, b3, he]
            refine ⟨by omega, by omega, m_bsl (fun p hp => by simp only [List.mem_cons, List.not_mem_nil, or_false] at hp; rcases hp with rfl | rfl <;> rfl) ?_⟩
            rintro b7 w7 hb7 hblk7 hx7 hs7
            have hx7 : Ext w3 w7 := by first | exact hx7 | exact ud hx7 | exact ud (ud hx7)
            have hb7' : b7 = w3.heap.size := hb7
            simp only [↓vsd, vsn, gW, qd, qv, ev, pick, argE, zipE, ne_eq, eq_self, forall_const, implies_true, if_true, if_false, reduceIte, reduceCtorEq, Nat.reduceEqDiff, Nat.reduceAdd, Nat.reduceLT, ↓us_sRepeatsIn, r_sRepeatsIn]
            refine m_bsl (one_el rfl) ?_
            rintro b8 w8 hb8 hblk8 hx8 hs8
            have hx8 : Ext w7 w8 := by first | exact hx8 | exact ud hx8 | exact ud (ud hx8)
            simp only [↓vsd, vsn, gW, qd, qv, ev, pick, argE, zipE, ne_eq, eq_self, forall_const, implies_true, if_true, if_false, reduceIte, reduceCtorEq, Nat.reduceEqDiff, Nat.reduceAdd, Nat.reduceLT, ↓us_sRepeatsIn, r_sRepeatsIn]
            have hx68 := hx7.trans hx8
            have hin : Own fI 1 3 w1.heap.size w8 (SV.v ⟨some ⟨b7, 0, none⟩, 2, 2⟩) [(i : Int), ((i + 1 + j : Nat) : Int)] := by
              refine ⟨fI_len, .inr ⟨b7, 2, _, rfl, by have := hx3.size; omega, hblk7.ext hx8, Nat.le_refl _, by unfold maxLen; omega, rfl, rfl⟩⟩
            refine m_pushU (hN3.ext hx68) (Sq.one (a := SV.mk (some ⟨b7, 0, none⟩) 2 2) fSV_len hblk8 rfl) hin (fun c hc => by
              simp only [SV.v, Value.ownBlock, Option.some.injEq] at hc
              omega) hx68.size (by omega) rfl (by decide) (hx3.trans hx68).size ?_
            rintro x9 w9 hN9 hg9
            have hx9 := ext_grow (hx3.trans hx68) hg9 (fun c hc => ((hN3.ext hx68).bound c hc).1)
            simp only [↓vsd, vsn, gW, qd, qv, ev, pick, argE, zipE, ne_eq, eq_self, forall_const, implies_true, if_true, if_false, reduceIte, reduceCtorEq, Nat.reduceEqDiff, Nat.reduceAdd, Nat.reduceLT, ↓us_sRepeatsIn, r_sRepeatsIn, ej]
            refine ⟨inR_i64 (by omega), UpTo.next (by omega) ⟨x9, rfl, hN9.to ?_, hx9⟩⟩
            rw [show i + 1 + (j + 1) = i + 1 + j + 1 from rfl, hsu, htk, List.take_of_length_le (by simp only [List.length_append, List.length_singleton]; omega)]
          · rw [if_neg (fun hh => he hh.2), List.append_nil] at hsu
            have he' : ¬ l.getD i [] = l.getD (i + 1 + j) [] := fun e => he e.symm
            simp only [↓vsd, vsn, gW, qd, qv, ev, pick, argE, zipE, ne_eq, eq_self, forall_const, implies_true, if_true, if_false, reduceIte, reduceCtorEq, Nat.reduceEqDiff, Nat.reduceAdd, Nat.reduceLT, ↓us_sRepeatsIn, r_sRepeatsIn, hljI, hq3.facts, hN3.sq.facts, hfI, a3, b3, he', ej]
            exact ⟨by omega, by omega, inR_i64 (by omega), UpTo.next (by omega) ⟨x3, rfl, by rw [show i + 1 + (j + 1) = i + 1 + j + 1 from rfl, hsu]; exact hN3, by first | exact hx3 | exact dr hx3⟩⟩
      · have hljI : ¬ ((i + 1 + j : Nat) : Int) < l.length := by omega
        simp only [↓vsd, vsn, gW, qd, qv, ev, pick, argE, zipE, ne_eq, eq_self, forall_const, implies_true, if_true, if_false, reduceIte, reduceCtorEq, Nat.reduceEqDiff, Nat.reduceAdd, Nat.reduceLT, ↓us_sRepeatsIn, r_sRepeatsIn, hljI, hq3.facts]
        exact ⟨inR_i64 (by omega), UpTo.next hli ⟨x3, rfl, by rw [hend (.inr (by omega))]; exact hN3, by first | exact hx3 | exact dr hx3⟩⟩
    · obtain rfl : i = l.length := by omega
      have hliI : ¬ (l.length : Int) < l.length := by omega
      simp only [↓vsd, vsn, gW, qd, qv, ev, pick, argE, zipE, ne_eq, eq_self, forall_const, implies_true, if_true, if_false, reduceIte, reduceCtorEq, Nat.reduceEqDiff, Nat.reduceAdd, Nat.reduceLT, ↓us_sRepeatsIn, r_sRepeatsIn, hliI]
      exact ⟨hx1.trans hx2, x, rfl, by rw [repV, if_pos hr]; exact hN2.sq⟩
  · simp only [↓vsd, vsn, gW, qd, qv, ev, pick, argE, zipE, ne_eq, eq_self, forall_const, implies_true, if_true, if_false, reduceIte, reduceCtorEq, Nat.reduceEqDiff, Nat.reduceAdd, Nat.reduceLT, ↓us_sRepeatsIn, r_sRepeatsIn, hr]
    exact ⟨hx1, _, rfl, by rw [repV, if_neg hr]; exact (NestU.nil (E1 := 3) (E2 := 39) (B := 0) (T := 0)).sq⟩
end Go.Proofs.Ytnincmnkdjlndaa
