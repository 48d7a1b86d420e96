/-
  Coursing orders: the places; CourseOf and RowOfCourse; the laws' calls.
  Conditions: none.
-/
import Derived.Test.YtpnopboffalfnaaA1
set_option linter.unusedSimpArgs false
set_option linter.unusedVariables false
set_option linter.defProp false
namespace Go.Proofs.Ytpnopboffalfnaa
open Go Go.RowKit
section
variable (P : Program) (k : KT) (e : Env) (w : World)
abbrev b308_1 : X := (.cond (.t 8) .skip (.exit 0))
def t308_1 := b308_1
theorem u308_1 : vcK P t308_1 k e w = vcK P b308_1 k e w := rfl
abbrev b308_2 : X := (.reg [0, 3, 4] (.c (.q 9 [] (.mv (.t 4))) (.c (.q 10 [] (.bin .add (.t 9) (.c (.int .i64 2)))) (.c (.q 4 [] (.mv (.t 10))) .nil))))
def t308_2 := b308_2
theorem u308_2 : vcK P t308_2 k e w = vcK P b308_2 k e w := rfl
abbrev b308_3 : X := (.seq (.blk 1 (.reg [0, 3, 4] (.c (.q 11 [] (.mv (.t 3))) (.c (.q 12 [] (.mv (.t 4))) (.c (.e (some 13) [] (.bsl 3 1 [(.t 12)])) (.c (.e (some 14) [] (.app 69 3 1 8 [(.int .i64 0)] 69 (.t 11) (.t 13))) (.c (.q 3 [] (.mv (.t 14))) .nil))))))) t308_2)
def t308_3 := b308_3
theorem u308_3 : vcK P t308_3 k e w = vcK P b308_3 k e w := rfl
abbrev b308_4 : X := (.seq (.seq (.reg [0, 3, 4, 8] (.c (.q 6 [] (.mv (.t 4))) (.c (.q 7 [] (.mv (.t 0))) (.c (.q 8 [] (.bin .leq (.t 6) (.t 7))) .nil)))) t308_1) t308_3)
def t308_4 := b308_4
theorem u308_4 : vcK P t308_4 k e w = vcK P b308_4 k e w := rfl
abbrev b308_5 : X := (.blk 0 (.loop [3, 4] [0] t308_4))
def t308_5 := b308_5
theorem u308_5 : vcK P t308_5 k e w = vcK P b308_5 k e w := rfl
abbrev b308_6 : X := (.cond (.t 18) (.reg [3, 5] (.c (.q 19 [] (.mv (.t 0))) (.c (.q 20 [] (.bin .sub (.t 19) (.c (.int .i64 1)))) (.c (.q 5 [] (.mv (.t 20))) .nil)))) .skip)
def t308_6 := b308_6
theorem u308_6 : vcK P t308_6 k e w = vcK P b308_6 k e w := rfl
abbrev b308_7 : X := (.cond (.t 22) .skip (.exit 2))
def t308_7 := b308_7
theorem u308_7 : vcK P t308_7 k e w = vcK P b308_7 k e w := rfl
abbrev b308_8 : X := (.reg [3, 5] (.c (.q 23 [] (.mv (.t 5))) (.c (.q 24 [] (.bin .sub (.t 23) (.c (.int .i64 2)))) (.c (.q 5 [] (.mv (.t 24))) .nil))))
def t308_8 := b308_8
theorem u308_8 : vcK P t308_8 k e w = vcK P b308_8 k e w := rfl
abbrev b308_9 : X := (.seq (.blk 3 (.reg [3, 5] (.c (.q 25 [] (.mv (.t 3))) (.c (.q 26 [] (.mv (.t 5))) (.c (.e (some 27) [] (.bsl 3 1 [(.t 26)])) (.c (.e (some 28) [] (.app 69 3 1 8 [(.int .i64 0)] 69 (.t 25) (.t 27))) (.c (.q 3 [] (.mv (.t 28))) .nil))))))) t308_8)
def t308_9 := b308_9
theorem u308_9 : vcK P t308_9 k e w = vcK P b308_9 k e w := rfl
abbrev b308_10 : X := (.seq (.seq (.reg [3, 5, 22] (.c (.q 21 [] (.mv (.t 5))) (.c (.q 22 [] (.bin .geq (.t 21) (.c (.int .i64 3)))) .nil))) t308_7) t308_9)
def t308_10 := b308_10
theorem u308_10 : vcK P t308_10 k e w = vcK P b308_10 k e w := rfl
abbrev b308_11 : X := (.seq (.reg [2] (.c (.q 29 [] (.mv (.t 3))) (.c (.q 2 [] (.mv (.t 29))) .nil))) .ret)
def t308_11 := b308_11
theorem u308_11 : vcK P t308_11 k e w = vcK P b308_11 k e w := rfl
abbrev b308_12 : X := (.seq (.blk 2 (.loop [3, 5] [] t308_10)) t308_11)
def t308_12 := b308_12
theorem u308_12 : vcK P t308_12 k e w = vcK P b308_12 k e w := rfl
abbrev b308_13 : X := (.seq (.seq (.reg [0, 3, 5, 18] (.c (.q 16 [] (.mv (.t 0))) (.c (.q 17 [] (.bin .rem (.t 16) (.c (.int .i64 2)))) (.c (.q 18 [] (.bin .eql (.t 17) (.c (.int .i64 0)))) .nil)))) t308_6) t308_12)
def t308_13 := b308_13
theorem u308_13 : vcK P t308_13 k e w = vcK P b308_13 k e w := rfl
abbrev b308_14 : X := (.seq (.reg [0, 3, 5] (.c (.q 15 [] (.mv (.t 0))) (.c (.q 5 [] (.mv (.t 15))) .nil))) t308_13)
def t308_14 := b308_14
theorem u308_14 : vcK P t308_14 k e w = vcK P b308_14 k e w := rfl
abbrev b308_15 : X := (.seq (.seq (.reg [0, 3, 4] (.c (.q 4 [] (.mv (.c (.int .i64 2)))) .nil)) t308_5) t308_14)
def t308_15 := b308_15
theorem u308_15 : vcK P t308_15 k e w = vcK P b308_15 k e w := rfl
abbrev b308_16 : X := (.seq (.reg [0, 3] (.c (.q 3 [] (.mv (.c (.slice none 0 0)))) .nil)) t308_15)
def t308_16 := b308_16
theorem u308_16 : vcK P t308_16 k e w = vcK P b308_16 k e w := rfl
abbrev b308_0 : X := (.seq (.reg [0] (.c (.q 2 [] (.mv (.c (.slice none 0 0)))) .nil)) t308_16)
def x_sl15Places := b308_0
theorem u308_0 : vcK P x_sl15Places k e w = vcK P b308_0 k e w := rfl
def r_sl15Places : List XO := [(.mv (.t 2))]
theorem c_sl15Places : convF Try.prog [169, 170, 207, 208, 210, 227, 232, 233, 255, 259, 268, 269, 270, 280, 281, 296, 299, 306, 307, 309] Try.f308 [([0], []), ([0, 3], []), ([0, 3, 4], []), ([3, 4], [0]), ([0, 3, 4, 8], []), ([0, 3, 4], []), ([0, 3, 4], []), ([0, 3, 5], []), ([0, 3, 5, 18], []), ([3, 5], []), ([3, 5], []), ([3, 5, 22], []), ([3, 5], []), ([3, 5], []), ([2], [])] = some (x_sl15Places, r_sl15Places) := by kernel_rfl
def us_sl15Places := aI @u308_0 (aI @u308_1 (aI @u308_2 (aI @u308_3 (aI @u308_4 (aI @u308_5 (aI @u308_6 (aI @u308_7 (aI @u308_8 (aI @u308_9 (aI @u308_10 (aI @u308_11 (aI @u308_12 (aI @u308_13 (aI @u308_14 (aI @u308_15 @u308_16)))))))))))))))
abbrev b267_1 : X := (.cond (.t 9) .skip (.exit 0))
def t267_1 := b267_1
theorem u267_1 : vcK P t267_1 k e w = vcK P b267_1 k e w := rfl
abbrev b267_2 : X := (.reg [0, 3, 4] (.c (.q 10 [] (.mv (.t 4))) (.c (.q 11 [] (.bin .add (.t 10) (.c (.int .i64 2)))) (.c (.q 4 [] (.mv (.t 11))) .nil))))
def t267_2 := b267_2
theorem u267_2 : vcK P t267_2 k e w = vcK P b267_2 k e w := rfl
abbrev b267_3 : X := (.seq (.blk 1 (.reg [0, 3, 4] (.c (.q 12 [] (.mv (.t 3))) (.c (.q 13 [] (.mv (.t 4))) (.c (.e (some 14) [] (.bsl 3 1 [(.t 13)])) (.c (.e (some 15) [] (.app 69 3 1 8 [(.int .i64 0)] 69 (.t 12) (.t 14))) (.c (.q 3 [] (.mv (.t 15))) .nil))))))) t267_2)
def t267_3 := b267_3
theorem u267_3 : vcK P t267_3 k e w = vcK P b267_3 k e w := rfl
abbrev b267_4 : X := (.seq (.seq (.reg [0, 3, 4, 9] (.c (.q 7 [] (.mv (.t 4))) (.c (.q 8 [] (.mv (.t 0))) (.c (.q 9 [] (.bin .leq (.t 7) (.t 8))) .nil)))) t267_1) t267_3)
def t267_4 := b267_4
theorem u267_4 : vcK P t267_4 k e w = vcK P b267_4 k e w := rfl
abbrev b267_5 : X := (.blk 0 (.loop [3, 4] [0] t267_4))
def t267_5 := b267_5
theorem u267_5 : vcK P t267_5 k e w = vcK P b267_5 k e w := rfl
abbrev b267_6 : X := (.cond (.t 18) .skip (.exit 2))
def t267_6 := b267_6
theorem u267_6 : vcK P t267_6 k e w = vcK P b267_6 k e w := rfl
abbrev b267_7 : X := (.cond (.t 23) (.reg [3, 5] (.c (.q 24 [] (.mv (.t 3))) (.c (.q 25 [] (.mv (.t 5))) (.c (.e (some 26) [] (.bsl 3 1 [(.t 25)])) (.c (.e (some 27) [] (.app 69 3 1 8 [(.int .i64 0)] 69 (.t 24) (.t 26))) (.c (.q 3 [] (.mv (.t 27))) .nil)))))) .skip)
def t267_7 := b267_7
theorem u267_7 : vcK P t267_7 k e w = vcK P b267_7 k e w := rfl
abbrev b267_8 : X := (.reg [3, 5] (.c (.q 19 [] (.mv (.t 5))) (.c (.q 20 [] (.bin .sub (.t 19) (.c (.int .i64 1)))) (.c (.q 5 [] (.mv (.t 20))) .nil))))
def t267_8 := b267_8
theorem u267_8 : vcK P t267_8 k e w = vcK P b267_8 k e w := rfl
abbrev b267_9 : X := (.seq (.blk 3 (.seq (.reg [3, 5, 23] (.c (.q 21 [] (.mv (.t 5))) (.c (.q 22 [] (.bin .rem (.t 21) (.c (.int .i64 2)))) (.c (.q 23 [] (.bin .eql (.t 22) (.c (.int .i64 1)))) .nil)))) t267_7)) t267_8)
def t267_9 := b267_9
theorem u267_9 : vcK P t267_9 k e w = vcK P b267_9 k e w := rfl
abbrev b267_10 : X := (.seq (.seq (.reg [3, 5, 18] (.c (.q 17 [] (.mv (.t 5))) (.c (.q 18 [] (.bin .geq (.t 17) (.c (.int .i64 3)))) .nil))) t267_6) t267_9)
def t267_10 := b267_10
theorem u267_10 : vcK P t267_10 k e w = vcK P b267_10 k e w := rfl
abbrev b267_11 : X := (.blk 2 (.loop [3, 5] [] t267_10))
def t267_11 := b267_11
theorem u267_11 : vcK P t267_11 k e w = vcK P b267_11 k e w := rfl
abbrev b267_12 : X := (.seq (.reg [2] (.c (.q 28 [] (.mv (.t 3))) (.c (.q 2 [] (.mv (.t 28))) .nil))) .ret)
def t267_12 := b267_12
theorem u267_12 : vcK P t267_12 k e w = vcK P b267_12 k e w := rfl
abbrev b267_13 : X := (.seq (.seq (.reg [3, 5] (.c (.q 16 [] (.mv (.t 0))) (.c (.q 5 [] (.mv (.t 16))) .nil))) t267_11) t267_12)
def t267_13 := b267_13
theorem u267_13 : vcK P t267_13 k e w = vcK P b267_13 k e w := rfl
abbrev b267_14 : X := (.seq (.seq (.reg [0, 3, 4] (.c (.q 4 [] (.mv (.c (.int .i64 2)))) .nil)) t267_5) t267_13)
def t267_14 := b267_14
theorem u267_14 : vcK P t267_14 k e w = vcK P b267_14 k e w := rfl
abbrev b267_15 : X := (.seq (.reg [0, 3] (.c (.e (some 6) [] (.bsl 3 1 [])) (.c (.q 3 [] (.mv (.t 6))) .nil))) t267_14)
def t267_15 := b267_15
theorem u267_15 : vcK P t267_15 k e w = vcK P b267_15 k e w := rfl
abbrev b267_0 : X := (.seq (.reg [0] (.c (.q 2 [] (.mv (.c (.slice none 0 0)))) .nil)) t267_15)
def x_icoursing := b267_0
theorem u267_0 : vcK P x_icoursing k e w = vcK P b267_0 k e w := rfl
def r_icoursing : List XO := [(.mv (.t 2))]
theorem c_icoursing : convF Try.prog [169, 170, 207, 208, 210, 227, 232, 233, 255, 259, 268, 269, 270, 280, 281, 296, 299, 306, 307, 309] Try.f267 [([0], []), ([0, 3], []), ([0, 3, 4], []), ([3, 4], [0]), ([0, 3, 4, 9], []), ([0, 3, 4], []), ([0, 3, 4], []), ([3, 5], []), ([3, 5], []), ([3, 5, 18], []), ([3, 5, 23], []), ([3, 5], []), ([3, 5], []), ([2], [])] = some (x_icoursing, r_icoursing) := by kernel_rfl
def us_icoursing := aI @u267_0 (aI @u267_1 (aI @u267_2 (aI @u267_3 (aI @u267_4 (aI @u267_5 (aI @u267_6 (aI @u267_7 (aI @u267_8 (aI @u267_9 (aI @u267_10 (aI @u267_11 (aI @u267_12 (aI @u267_13 (aI @u267_14 @u267_15))))))))))))))
abbrev b264_1 : X := (.reg [0, 3, 8, 9, 10] (.c (.q 14 [] (.mv (.t 3))) (.c (.q 15 [] (.mv (.t 0))) (.c (.q 16 [] (.mv (.t 5))) (.c (.q 17 [] (.bin .sub (.t 16) (.c (.int .i64 1)))) (.c (.q 18 [] (.mv (.t 5))) (.c (.q 19 [] (.sub (.t 15) (some (.t 17)) (some (.t 18)))) (.c (.q 20 [] (.bin .add (.t 14) (.t 19))) (.c (.q 3 [] (.mv (.t 20))) .nil)))))))))
def t264_1 := b264_1
theorem u264_1 : vcK P t264_1 k e w = vcK P b264_1 k e w := rfl
abbrev b264_2 : X := (.reg [0, 3, 8, 9, 10] (.c (.q 21 [] (.bin .add (.t 10) (.c (.int .i64 1)))) (.c (.q 10 [] (.mv (.t 21))) .nil)))
def t264_2 := b264_2
theorem u264_2 : vcK P t264_2 k e w = vcK P b264_2 k e w := rfl
abbrev b264_3 : X := (.seq (.blk 1 (.seq (.reg [0, 3, 5, 8, 9, 10] (.c (.q 12 [] (.ia 1 (.t 8) (.t 10))) (.c (.q 13 [] (.ld (.t 12))) (.c (.q 5 [] (.mv (.t 13))) .nil)))) t264_1)) t264_2)
def t264_3 := b264_3
theorem u264_3 : vcK P t264_3 k e w = vcK P b264_3 k e w := rfl
abbrev b264_4 : X := (.seq (.cond (.t 11) .skip (.exit 0)) t264_3)
def t264_4 := b264_4
theorem u264_4 : vcK P t264_4 k e w = vcK P b264_4 k e w := rfl
abbrev b264_5 : X := (.seq (.reg [0, 3, 8, 9, 10, 11] (.c (.q 11 [] (.bin .lss (.t 10) (.t 9))) .nil)) t264_4)
def t264_5 := b264_5
theorem u264_5 : vcK P t264_5 k e w = vcK P b264_5 k e w := rfl
abbrev b264_6 : X := (.blk 0 (.loop [3, 10] [0, 8, 9] t264_5))
def t264_6 := b264_6
theorem u264_6 : vcK P t264_6 k e w = vcK P b264_6 k e w := rfl
abbrev b264_7 : X := (.seq (.reg [2] (.c (.q 22 [] (.mv (.t 3))) (.c (.q 2 [] (.mv (.t 22))) .nil))) .ret)
def t264_7 := b264_7
theorem u264_7 : vcK P t264_7 k e w = vcK P b264_7 k e w := rfl
abbrev b264_8 : X := (.seq (.seq (.reg [0, 3, 8, 9, 10] (.c (.q 6 [] (.mv (.t 0))) (.c (.q 7 [] (.len (.t 6))) (.c (.e (some 8) [] (.call false 308 [(.t 7)])) (.c (.q 9 [] (.lens (.t 8))) (.c (.q 10 [] (.mv (.c (.int .i64 0)))) .nil)))))) t264_6) t264_7)
def t264_8 := b264_8
theorem u264_8 : vcK P t264_8 k e w = vcK P b264_8 k e w := rfl
abbrev b264_9 : X := (.seq (.reg [0, 3] (.c (.q 3 [] (.mv (.s []))) .nil)) t264_8)
def t264_9 := b264_9
theorem u264_9 : vcK P t264_9 k e w = vcK P b264_9 k e w := rfl
abbrev b264_0 : X := (.seq (.reg [0] (.c (.q 2 [] (.mv (.s []))) .nil)) t264_9)
def x_sl15Course := b264_0
theorem u264_0 : vcK P x_sl15Course k e w = vcK P b264_0 k e w := rfl
def r_sl15Course : List XO := [(.mv (.t 2))]
theorem c_sl15Course : convF Try.prog [169, 170, 207, 208, 210, 227, 232, 233, 255, 259, 268, 269, 270, 280, 281, 296, 299, 306, 307, 309] Try.f264 [([0], []), ([0, 3], []), ([0, 3, 8, 9, 10], []), ([3, 10], [0, 8, 9]), ([0, 3, 8, 9, 10, 11], []), ([0, 3, 5, 8, 9, 10], []), ([0, 3, 8, 9, 10], []), ([0, 3, 8, 9, 10], []), ([2], [])] = some (x_sl15Course, r_sl15Course) := by kernel_rfl
def us_sl15Course := aI @u264_0 (aI @u264_1 (aI @u264_2 (aI @u264_3 (aI @u264_4 (aI @u264_5 (aI @u264_6 (aI @u264_7 (aI @u264_8 @u264_9))))))))
abbrev b261_1 : X := (.reg [0, 3, 8, 9, 10] (.c (.q 14 [] (.mv (.t 3))) (.c (.q 15 [] (.mv (.t 0))) (.c (.q 16 [] (.mv (.t 5))) (.c (.q 17 [] (.bin .sub (.t 16) (.c (.int .i64 1)))) (.c (.q 18 [] (.mv (.t 5))) (.c (.q 19 [] (.sub (.t 15) (some (.t 17)) (some (.t 18)))) (.c (.q 20 [] (.bin .add (.t 14) (.t 19))) (.c (.q 3 [] (.mv (.t 20))) .nil)))))))))
def t261_1 := b261_1
theorem u261_1 : vcK P t261_1 k e w = vcK P b261_1 k e w := rfl
abbrev b261_2 : X := (.reg [0, 3, 8, 9, 10] (.c (.q 21 [] (.bin .add (.t 10) (.c (.int .i64 1)))) (.c (.q 10 [] (.mv (.t 21))) .nil)))
def t261_2 := b261_2
theorem u261_2 : vcK P t261_2 k e w = vcK P b261_2 k e w := rfl
abbrev b261_3 : X := (.seq (.blk 1 (.seq (.reg [0, 3, 5, 8, 9, 10] (.c (.q 12 [] (.ia 1 (.t 8) (.t 10))) (.c (.q 13 [] (.ld (.t 12))) (.c (.q 5 [] (.mv (.t 13))) .nil)))) t261_1)) t261_2)
def t261_3 := b261_3
theorem u261_3 : vcK P t261_3 k e w = vcK P b261_3 k e w := rfl
abbrev b261_4 : X := (.seq (.cond (.t 11) .skip (.exit 0)) t261_3)
def t261_4 := b261_4
theorem u261_4 : vcK P t261_4 k e w = vcK P b261_4 k e w := rfl
abbrev b261_5 : X := (.seq (.reg [0, 3, 8, 9, 10, 11] (.c (.q 11 [] (.bin .lss (.t 10) (.t 9))) .nil)) t261_4)
def t261_5 := b261_5
theorem u261_5 : vcK P t261_5 k e w = vcK P b261_5 k e w := rfl
abbrev b261_6 : X := (.blk 0 (.loop [3, 10] [0, 8, 9] t261_5))
def t261_6 := b261_6
theorem u261_6 : vcK P t261_6 k e w = vcK P b261_6 k e w := rfl
abbrev b261_7 : X := (.seq (.reg [2] (.c (.q 22 [] (.mv (.t 3))) (.c (.q 2 [] (.mv (.t 22))) .nil))) .ret)
def t261_7 := b261_7
theorem u261_7 : vcK P t261_7 k e w = vcK P b261_7 k e w := rfl
abbrev b261_8 : X := (.seq (.seq (.reg [0, 3, 8, 9, 10] (.c (.q 6 [] (.mv (.t 0))) (.c (.q 7 [] (.len (.t 6))) (.c (.e (some 8) [] (.call false 267 [(.t 7)])) (.c (.q 9 [] (.lens (.t 8))) (.c (.q 10 [] (.mv (.c (.int .i64 0)))) .nil)))))) t261_6) t261_7)
def t261_8 := b261_8
theorem u261_8 : vcK P t261_8 k e w = vcK P b261_8 k e w := rfl
abbrev b261_9 : X := (.seq (.reg [0, 3] (.c (.q 3 [] (.mv (.s []))) .nil)) t261_8)
def t261_9 := b261_9
theorem u261_9 : vcK P t261_9 k e w = vcK P b261_9 k e w := rfl
abbrev b261_0 : X := (.seq (.reg [0] (.c (.q 2 [] (.mv (.s []))) .nil)) t261_9)
def x_icourseOf := b261_0
theorem u261_0 : vcK P x_icourseOf k e w = vcK P b261_0 k e w := rfl
def r_icourseOf : List XO := [(.mv (.t 2))]
theorem c_icourseOf : convF Try.prog [169, 170, 207, 208, 210, 227, 232, 233, 255, 259, 268, 269, 270, 280, 281, 296, 299, 306, 307, 309] Try.f261 [([0], []), ([0, 3], []), ([0, 3, 8, 9, 10], []), ([3, 10], [0, 8, 9]), ([0, 3, 8, 9, 10, 11], []), ([0, 3, 5, 8, 9, 10], []), ([0, 3, 8, 9, 10], []), ([0, 3, 8, 9, 10], []), ([2], [])] = some (x_icourseOf, r_icourseOf) := by kernel_rfl
def us_icourseOf := aI @u261_0 (aI @u261_1 (aI @u261_2 (aI @u261_3 (aI @u261_4 (aI @u261_5 (aI @u261_6 (aI @u261_7 (aI @u261_8 @u261_9))))))))
abbrev b146_1 : X := (.cond (.t 21) (.seq (.reg [4, 5] (.c (.q 4 [] (.mv (.s []))) (.c (.q 5 [] (.mv (.c (.bool false)))) .nil))) .ret) .skip)
def t146_1 := b146_1
theorem u146_1 : vcK P t146_1 k e w = vcK P b146_1 k e w := rfl
abbrev b146_2 : X := (.reg [1, 7, 30, 31, 32] (.c (.q 37 [] (.mv (.t 7))) (.c (.q 38 [] (.mv (.t 9))) (.c (.q 39 [] (.bin .sub (.t 38) (.c (.int .i64 1)))) (.c (.q 40 [] (.mv (.t 1))) (.c (.q 41 [] (.mv (.t 8))) (.c (.q 42 [] (.idx (.t 40) (.t 41))) (.c (.q 43 [] (.ia 1 (.t 37) (.t 39))) (.c (.e none [] (.st 1 (.t 43) (.t 42))) .nil)))))))))
def t146_2 := b146_2
theorem u146_2 : vcK P t146_2 k e w = vcK P b146_2 k e w := rfl
abbrev b146_3 : X := (.reg [1, 7, 30, 31, 32] (.c (.q 44 [] (.bin .add (.t 32) (.c (.int .i64 1)))) (.c (.q 32 [] (.mv (.t 44))) .nil)))
def t146_3 := b146_3
theorem u146_3 : vcK P t146_3 k e w = vcK P b146_3 k e w := rfl
abbrev b146_4 : X := (.seq (.blk 1 (.seq (.reg [1, 7, 8, 9, 30, 31, 32] (.c (.q 34 [] (.mv (.t 32))) (.c (.q 35 [] (.ia 1 (.t 30) (.t 32))) (.c (.q 36 [] (.ld (.t 35))) (.c (.q 8 [] (.mv (.t 34))) (.c (.q 9 [] (.mv (.t 36))) .nil)))))) t146_2)) t146_3)
def t146_4 := b146_4
theorem u146_4 : vcK P t146_4 k e w = vcK P b146_4 k e w := rfl
abbrev b146_5 : X := (.seq (.cond (.t 33) .skip (.exit 0)) t146_4)
def t146_5 := b146_5
theorem u146_5 : vcK P t146_5 k e w = vcK P b146_5 k e w := rfl
abbrev b146_6 : X := (.seq (.reg [1, 7, 30, 31, 32, 33] (.c (.q 33 [] (.bin .lss (.t 32) (.t 31))) .nil)) t146_5)
def t146_6 := b146_6
theorem u146_6 : vcK P t146_6 k e w = vcK P b146_6 k e w := rfl
abbrev b146_7 : X := (.blk 0 (.loop [32] [1, 7, 30, 31] t146_6))
def t146_7 := b146_7
theorem u146_7 : vcK P t146_7 k e w = vcK P b146_7 k e w := rfl
abbrev b146_8 : X := (.cond (.t 48) (.seq (.reg [4, 5] (.c (.q 4 [] (.mv (.s []))) (.c (.q 5 [] (.mv (.c (.bool false)))) .nil))) .ret) .skip)
def t146_8 := b146_8
theorem u146_8 : vcK P t146_8 k e w = vcK P b146_8 k e w := rfl
abbrev b146_9 : X := (.seq (.reg [4, 5] (.c (.q 49 [] (.mv (.t 7))) (.c (.e (some 50) [] (.b2s (.t 49))) (.c (.q 4 [] (.mv (.t 50))) (.c (.q 5 [] (.mv (.c (.bool true)))) .nil))))) .ret)
def t146_9 := b146_9
theorem u146_9 : vcK P t146_9 k e w = vcK P b146_9 k e w := rfl
abbrev b146_10 : X := (.seq (.seq (.reg [7, 48] (.c (.q 45 [] (.mv (.t 7))) (.c (.e (some 46) [] (.b2s (.t 45))) (.c (.e (some 47) [] (.call false 181 [(.t 46)])) (.c (.q 48 [] (.not (.t 47))) .nil))))) t146_8) t146_9)
def t146_10 := b146_10
theorem u146_10 : vcK P t146_10 k e w = vcK P b146_10 k e w := rfl
abbrev b146_11 : X := (.seq (.seq (.reg [1, 7, 30, 31, 32] (.c (.q 29 [] (.mv (.t 6))) (.c (.e (some 30) [] (.call false 267 [(.t 29)])) (.c (.q 31 [] (.lens (.t 30))) (.c (.q 32 [] (.mv (.c (.int .i64 0)))) .nil))))) t146_7) t146_10)
def t146_11 := b146_11
theorem u146_11 : vcK P t146_11 k e w = vcK P b146_11 k e w := rfl
abbrev b146_12 : X := (.seq (.reg [1, 6, 7] (.c (.q 24 [] (.mv (.t 7))) (.c (.q 25 [] (.mv (.t 0))) (.c (.q 26 [] (.bin .add (.c (.int .i64 48)) (.t 25))) (.c (.q 27 [] (.cvi .u8 (.t 26))) (.c (.q 28 [] (.ia 1 (.t 24) (.c (.int .i64 0)))) (.c (.e none [] (.st 1 (.t 28) (.t 27))) .nil))))))) t146_11)
def t146_12 := b146_12
theorem u146_12 : vcK P t146_12 k e w = vcK P b146_12 k e w := rfl
abbrev b146_13 : X := (.seq (.reg [0, 1, 6, 7] (.c (.q 22 [] (.mv (.t 6))) (.c (.e (some 23) [] (.msl 39 5 1 1 [(.int .u8 0)] (.t 22) (.t 22))) (.c (.q 7 [] (.mv (.t 23))) .nil)))) t146_12)
def t146_13 := b146_13
theorem u146_13 : vcK P t146_13 k e w = vcK P b146_13 k e w := rfl
abbrev b146_14 : X := (.seq (.seq (.reg [0, 1, 6, 21] (.c (.q 13 [] (.mv (.t 6))) (.c (.e (some 14) [] (.call false 266 [(.t 13), (.c (.int .i64 4)), (.c (.int .i64 8))])) (.c (.q 15 [] (.not (.t 14))) (.c (.q 16 [] (.mv (.t 15))) (.c (.q 17 [(16, false)] (.mv (.t 6))) (.c (.q 18 [(16, false)] (.mv (.t 0))) (.c (.e (some 19) [(16, false)] (.call false 201 [(.t 17), (.t 18)])) (.c (.q 20 [(16, false)] (.not (.t 19))) (.c (.q 21 [] (.pick (.t 16) (.c (.bool true)) (.t 20))) .nil)))))))))) t146_1) t146_13)
def t146_14 := b146_14
theorem u146_14 : vcK P t146_14 k e w = vcK P b146_14 k e w := rfl
abbrev b146_15 : X := (.seq (.reg [0, 1, 6] (.c (.q 10 [] (.mv (.t 1))) (.c (.q 11 [] (.len (.t 10))) (.c (.q 12 [] (.bin .add (.t 11) (.c (.int .i64 1)))) (.c (.q 6 [] (.mv (.t 12))) .nil))))) t146_14)
def t146_15 := b146_15
theorem u146_15 : vcK P t146_15 k e w = vcK P b146_15 k e w := rfl
abbrev b146_0 : X := (.seq (.reg [0, 1] (.c (.q 4 [] (.mv (.s []))) (.c (.q 5 [] (.mv (.c (.bool false)))) .nil))) t146_15)
def x_iRowOfCourse := b146_0
theorem u146_0 : vcK P x_iRowOfCourse k e w = vcK P b146_0 k e w := rfl
def r_iRowOfCourse : List XO := [(.mv (.t 4)), (.mv (.t 5))]
theorem c_iRowOfCourse : convF Try.prog [169, 170, 207, 208, 210, 227, 232, 233, 255, 259, 268, 269, 270, 280, 281, 296, 299, 306, 307, 309] Try.f146 [([0, 1], []), ([0, 1, 6], []), ([0, 1, 6, 21], []), ([4, 5], []), ([0, 1, 6, 7], []), ([1, 6, 7], []), ([1, 7, 30, 31, 32], []), ([32], [1, 7, 30, 31]), ([1, 7, 30, 31, 32, 33], []), ([1, 7, 8, 9, 30, 31, 32], []), ([1, 7, 30, 31, 32], []), ([1, 7, 30, 31, 32], []), ([7, 48], []), ([4, 5], []), ([4, 5], [])] = some (x_iRowOfCourse, r_iRowOfCourse) := by kernel_rfl
def us_iRowOfCourse := aI @u146_0 (aI @u146_1 (aI @u146_2 (aI @u146_3 (aI @u146_4 (aI @u146_5 (aI @u146_6 (aI @u146_7 (aI @u146_8 (aI @u146_9 (aI @u146_10 (aI @u146_11 (aI @u146_12 (aI @u146_13 (aI @u146_14 @u146_15))))))))))))))
abbrev b201_1 : X := (.seq (.reg [4] (.c (.q 5 [] (.mv (.t 1))) (.c (.q 6 [] (.bin .leq (.c (.int .i64 1)) (.t 5))) (.c (.q 7 [] (.mv (.t 6))) (.c (.q 8 [(7, true)] (.mv (.t 1))) (.c (.q 9 [(7, true)] (.mv (.t 0))) (.c (.q 10 [(7, true)] (.bin .leq (.t 8) (.t 9))) (.c (.q 11 [] (.pick (.t 7) (.t 10) (.c (.bool false)))) (.c (.q 4 [] (.mv (.t 11))) .nil))))))))) .ret)
def t201_1 := b201_1
theorem u201_1 : vcK P t201_1 k e w = vcK P b201_1 k e w := rfl
abbrev b201_0 : X := (.seq (.reg [0, 1] (.c (.q 4 [] (.mv (.c (.bool false)))) .nil)) t201_1)
def x_iisBell := b201_0
theorem u201_0 : vcK P x_iisBell k e w = vcK P b201_0 k e w := rfl
def r_iisBell : List XO := [(.mv (.t 4))]
theorem c_iisBell : convF Try.prog [169, 170, 207, 208, 210, 227, 232, 233, 255, 259, 268, 269, 270, 280, 281, 296, 299, 306, 307, 309] Try.f201 [([0, 1], []), ([4], [])] = some (x_iisBell, r_iisBell) := by kernel_rfl
def us_iisBell := aI @u201_0 @u201_1
end

/-- The coursing places of a stage. -/
def coursingL (n : Nat) : List Int := ((List.range (n + 1)).filter fun p => p % 2 = 0 ∧ 2 ≤ p).map Int.ofNat ++ (((List.range (n + 1)).filter fun p => p % 2 = 1 ∧ 3 ≤ p).map Int.ofNat).reverse
theorem cou_zero : ∀ n : Nat, (coursingL n).take 0 = [] := fun _ => List.take_zero
theorem cou_even : ∀ n < 9, ∀ k < n / 2, (coursingL n).take (k + 1) = (coursingL n).take k ++ [((2 * k + 2 : Nat) : Int)] := by decide
theorem cou_odd : ∀ n < 9, ∀ j < (n - 1) / 2, (coursingL n).take (n / 2 + (j + 1)) = (coursingL n).take (n / 2 + j) ++ [((n - (n + 1) % 2 - 2 * j : Nat) : Int)] := by decide
theorem cou_down : ∀ n < 9, ∀ j < n - 2, (coursingL n).take (n / 2 + ((n + 1) / 2 - (n - j) / 2)) = (coursingL n).take (n / 2 + ((n + 1) / 2 - (n + 1 - j) / 2)) ++ (if (n - j) % 2 = 1 then [((n - j : Nat) : Int)] else []) := by decide
theorem cou_all : ∀ n < 9, (coursingL n).take (n / 2 + (n - 1) / 2) = coursingL n := by decide
theorem cou_len : ∀ n < 9, (coursingL n).length = n - 1 := by decide
theorem cou_in : ∀ n < 9, ∀ k < (coursingL n).length, 2 ≤ (coursingL n).getD k 0 ∧ (coursingL n).getD k 0 ≤ n := by decide
theorem sl15Places_ok (n : Nat) (h0 : 0 < n) (hn : n < 9) (w : World) : Fn 308 [.int .i64 n] w (fun v w' => Own fI 1 3 w.heap.size w' v (coursingL n)) := by
  (refine callsV_of mix Try.func308 c_sl15Places ?_; simp only [↓vsd, vsn, gW, qd, qv, ev, pick, argE, zipE, ne_eq, eq_self, forall_const, implies_true, if_true, if_false, reduceIte, reduceCtorEq, Nat.reduceEqDiff, Nat.reduceAdd, Nat.reduceLT, ↓us_sl15Places, r_sl15Places])
  refine m_upto (n / 2) (fun k vs w' => ∃ v, vs = [v, .int .i64 (2 * k + 2 : Nat)] ∧ Own fI 1 3 w.heap.size w' v ((coursingL n).take k) ∧ Ext w w') ⟨_, rfl, Own.nil fI_len, Ext.refl _⟩ ?_
  rintro k vs w' hk ⟨v, rfl, ho, hx⟩
  simp only [↓vsd, vsn, gW, qd, qv, ev, pick, argE, zipE, ne_eq, eq_self, forall_const, implies_true, if_true, if_false, reduceIte, reduceCtorEq, Nat.reduceEqDiff, Nat.reduceAdd, Nat.reduceLT, ↓us_sl15Places, r_sl15Places]
  refine ⟨fun hle => ?_, fun hgt => ?_⟩
  · refine m_bsl (one_el rfl) ?_
    rintro b w1 hb hblk hx1 hs1
    simp only [↓vsd, vsn, gW, qd, qv, ev, pick, argE, zipE, ne_eq, eq_self, forall_const, implies_true, if_true, if_false, reduceIte, reduceCtorEq, Nat.reduceEqDiff, Nat.reduceAdd, Nat.reduceLT, ↓us_sl15Places, r_sl15Places]
    refine m_app (ho.ext hx1) (Sq.one fI_len hblk rfl) fI_one (by decide) (by simp; omega) (by decide) (Nat.le_trans hx.size hx1.size) ?_
    rintro v2 w2 ho2 hg2
    have hx2 := (ho.ext hx1).grown (hx.trans hx1) (Nat.le_refl _) hg2
    simp only [↓vsd, vsn, gW, qd, qv, ev, pick, argE, zipE, ne_eq, eq_self, forall_const, implies_true, if_true, if_false, reduceIte, reduceCtorEq, Nat.reduceEqDiff, Nat.reduceAdd, Nat.reduceLT, ↓us_sl15Places, r_sl15Places]
    exact ⟨inR_i64 (by omega), UpTo.next (by omega) ⟨v2, by simp; omega, ho2.to (cou_even n hn k (by omega)).symm, hx2⟩⟩
  · obtain rfl : k = n / 2 := by omega
    have main (p : Nat) (hp : p = n - (n + 1) % 2) : loopE Try.prog [3, 5] [] t308_10 (KT.blk 2 (KT.seq t308_11 (KT.done r_sl15Places fun v w' => Ext w w' ∧ Own fI 1 3 w.heap.size w' v (coursingL n)))) [v, .int .i64 p] [] w' := by
      refine m_upto ((n - 1) / 2) (fun j vs w' => ∃ v, vs = [v, .int .i64 (n - (n + 1) % 2 - 2 * j : Nat)] ∧ Own fI 1 3 w.heap.size w' v ((coursingL n).take (n / 2 + j)) ∧ Ext w w') ⟨v, by rw [hp]; rfl, ho, hx⟩ ?_
      rintro j vs w3 hj ⟨v3, rfl, ho3, hx3⟩
      simp only [↓vsd, vsn, gW, qd, qv, ev, pick, argE, zipE, ne_eq, eq_self, forall_const, implies_true, if_true, if_false, reduceIte, reduceCtorEq, Nat.reduceEqDiff, Nat.reduceAdd, Nat.reduceLT, ↓us_sl15Places, r_sl15Places]
      refine ⟨fun hle => ?_, fun hgt => ⟨hx3, ?_⟩⟩
      · refine m_bsl (one_el rfl) ?_
        rintro b w4 hb hblk hx4 hs4
        simp only [↓vsd, vsn, gW, qd, qv, ev, pick, argE, zipE, ne_eq, eq_self, forall_const, implies_true, if_true, if_false, reduceIte, reduceCtorEq, Nat.reduceEqDiff, Nat.reduceAdd, Nat.reduceLT, ↓us_sl15Places, r_sl15Places]
        refine m_app (ho3.ext hx4) (Sq.one fI_len hblk rfl) fI_one (by decide) (by simp; omega) (by decide) (Nat.le_trans hx3.size hx4.size) ?_
        rintro v5 w5 ho5 hg5
        have hx5 := (ho3.ext hx4).grown (hx3.trans hx4) (Nat.le_refl _) hg5
        simp only [↓vsd, vsn, gW, qd, qv, ev, pick, argE, zipE, ne_eq, eq_self, forall_const, implies_true, if_true, if_false, reduceIte, reduceCtorEq, Nat.reduceEqDiff, Nat.reduceAdd, Nat.reduceLT, ↓us_sl15Places, r_sl15Places]
        exact ⟨inR_i64 (by omega), UpTo.next (by omega) ⟨v5, by simp; omega, ho5.to (cou_odd n hn j (by omega)).symm, hx5⟩⟩
      · obtain rfl : j = (n - 1) / 2 := by omega
        exact ho3.to (cou_all n hn)
    refine ⟨by decide, fun he => ?_, fun he => ?_⟩
    · have e : (n : Int) - 1 = (n - (n + 1) % 2 : Nat) := by omega
      rw [e]
      exact ⟨inR_i64 (by omega), main _ rfl⟩
    · exact main n (by omega)
theorem icoursing_ok (n : Nat) (hn : n < 9) (w : World) : Fn 267 [.int .i64 n] w (fun v w' => Own fI 1 3 w.heap.size w' v (coursingL n)) := by
  (refine callsV_of mix Try.func267 c_icoursing ?_; simp only [↓vsd, vsn, gW, qd, qv, ev, pick, argE, zipE, ne_eq, eq_self, forall_const, implies_true, if_true, if_false, reduceIte, reduceCtorEq, Nat.reduceEqDiff, Nat.reduceAdd, Nat.reduceLT, ↓us_icoursing, r_icoursing])
  refine m_bsl (by simp) ?_
  rintro b w1 hb hblk hx1 hs1
  simp only [↓vsd, vsn, gW, qd, qv, ev, pick, argE, zipE, ne_eq, eq_self, forall_const, implies_true, if_true, if_false, reduceIte, reduceCtorEq, Nat.reduceEqDiff, Nat.reduceAdd, Nat.reduceLT, ↓us_icoursing, r_icoursing]
  refine m_upto (n / 2) (fun k vs w' => ∃ v, vs = [v, .int .i64 (2 * k + 2 : Nat)] ∧ Own fI 1 3 w.heap.size w' v ((coursingL n).take k) ∧ Ext w w') ⟨_, rfl, Own.empty fI_len hblk (by omega), hx1⟩ ?_
  rintro k vs w' hk ⟨v, rfl, ho, hx⟩
  simp only [↓vsd, vsn, gW, qd, qv, ev, pick, argE, zipE, ne_eq, eq_self, forall_const, implies_true, if_true, if_false, reduceIte, reduceCtorEq, Nat.reduceEqDiff, Nat.reduceAdd, Nat.reduceLT, ↓us_icoursing, r_icoursing]
  refine ⟨fun hle => ?_, fun hgt => ?_⟩
  · refine m_bsl (one_el rfl) ?_
    rintro b w1 hb hblk hx1 hs1
    simp only [↓vsd, vsn, gW, qd, qv, ev, pick, argE, zipE, ne_eq, eq_self, forall_const, implies_true, if_true, if_false, reduceIte, reduceCtorEq, Nat.reduceEqDiff, Nat.reduceAdd, Nat.reduceLT, ↓us_icoursing, r_icoursing]
    refine m_app (ho.ext hx1) (Sq.one fI_len hblk rfl) fI_one (by decide) (by simp; omega) (by decide) (Nat.le_trans hx.size hx1.size) ?_
    rintro v2 w2 ho2 hg2
    have hx2 := (ho.ext hx1).grown (hx.trans hx1) (Nat.le_refl _) hg2
    simp only [↓vsd, vsn, gW, qd, qv, ev, pick, argE, zipE, ne_eq, eq_self, forall_const, implies_true, if_true, if_false, reduceIte, reduceCtorEq, Nat.reduceEqDiff, Nat.reduceAdd, Nat.reduceLT, ↓us_icoursing, r_icoursing]
    exact ⟨inR_i64 (by omega), UpTo.next (by omega) ⟨v2, by simp; omega, ho2.to (cou_even n hn k (by omega)).symm, hx2⟩⟩
  · obtain rfl : k = n / 2 := by omega
    refine m_upto (n - 2) (fun j vs w' => ∃ v, vs = [v, .int .i64 (n - j : Nat)] ∧ Own fI 1 3 w.heap.size w' v ((coursingL n).take (n / 2 + ((n + 1) / 2 - (n + 1 - j) / 2))) ∧ Ext w w') ⟨v, rfl, ho.to (by simp), hx⟩ ?_
    rintro j vs w3 hj ⟨v3, rfl, ho3, hx3⟩
    have hd := cou_down n hn j
    simp only [↓vsd, vsn, gW, qd, qv, ev, pick, argE, zipE, ne_eq, eq_self, forall_const, implies_true, if_true, if_false, reduceIte, reduceCtorEq, Nat.reduceEqDiff, Nat.reduceAdd, Nat.reduceLT, ↓us_icoursing, r_icoursing]
    refine ⟨fun hle => ⟨by decide, fun h1 => ?_, fun h0 => ?_⟩, fun hgt => ⟨hx3, ?_⟩⟩
    · refine m_bsl (one_el rfl) ?_
      rintro b w4 hb hblk hx4 hs4
      simp only [↓vsd, vsn, gW, qd, qv, ev, pick, argE, zipE, ne_eq, eq_self, forall_const, implies_true, if_true, if_false, reduceIte, reduceCtorEq, Nat.reduceEqDiff, Nat.reduceAdd, Nat.reduceLT, ↓us_icoursing, r_icoursing]
      refine m_app (ho3.ext hx4) (Sq.one fI_len hblk rfl) fI_one (by decide) (by simp; omega) (by decide) (Nat.le_trans hx3.size hx4.size) ?_
      rintro v5 w5 ho5 hg5
      have hx5 := (ho3.ext hx4).grown (hx3.trans hx4) (Nat.le_refl _) hg5
      simp only [↓vsd, vsn, gW, qd, qv, ev, pick, argE, zipE, ne_eq, eq_self, forall_const, implies_true, if_true, if_false, reduceIte, reduceCtorEq, Nat.reduceEqDiff, Nat.reduceAdd, Nat.reduceLT, ↓us_icoursing, r_icoursing]
      refine ⟨inR_i64 (by omega), UpTo.next (by omega) ⟨v5, by simp; omega, ho5.to ?_, hx5⟩⟩
      rw [show n + 1 - (j + 1) = n - j by omega, hd (by omega), if_pos (by omega)]
    · refine ⟨inR_i64 (by omega), UpTo.next (by omega) ⟨v3, by simp; omega, ho3.to ?_, hx3⟩⟩
      rw [show n + 1 - (j + 1) = n - j by omega, hd (by omega), if_neg (by omega), List.append_nil]
    · refine ho3.to ?_
      rw [show n / 2 + ((n + 1) / 2 - (n + 1 - j) / 2) = n / 2 + (n - 1) / 2 by omega]
      exact cou_all n hn
theorem sub_one (l : List UInt8) (i : Nat) (h : i < l.length) : (l.take (i + 1)).drop i = [l.getD i 0] := by
  rw [List.take_add_one, List.drop_append, List.getD_eq_getElem?_getD, List.getElem?_eq_getElem h]
  simp [Nat.min_eq_left (Nat.le_of_lt h)]
theorem take_map_succ {α β : Type} (f : α → β) (d : α) (l : List α) (k : Nat) (h : k < l.length) : (l.take (k + 1)).map f = (l.take k).map f ++ [f (l.getD k d)] := by
  rw [List.take_add_one, List.getElem?_eq_getElem h, List.getD_eq_getElem?_getD, List.getElem?_eq_getElem h, List.map_append]
  rfl
/-- The coursing order of a row. -/
def courseL (l : List UInt8) : List UInt8 := (coursingL l.length).map fun p => l.getD (p.toNat - 1) 0
theorem sl15Course_ok (l : List UInt8) (h0 : 0 < l.length) (hl : l.length < 9) (w : World) : Fn 264 [S l] w (fun v _ => v = S (courseL l)) := by
  (refine callsV_of mix Try.func264 c_sl15Course ?_; simp only [↓vsd, vsn, gW, qd, qv, ev, pick, argE, zipE, ne_eq, eq_self, forall_const, implies_true, if_true, if_false, reduceIte, reduceCtorEq, Nat.reduceEqDiff, Nat.reduceAdd, Nat.reduceLT, ↓us_sl15Course, r_sl15Course])
  refine m_call (sl15Places_ok _ h0 hl _) ?_
  rintro v1 w1 hx1 ho1
  simp only [↓vsd, vsn, gW, qd, qv, ev, pick, argE, zipE, ne_eq, eq_self, forall_const, implies_true, if_true, if_false, reduceIte, reduceCtorEq, Nat.reduceEqDiff, Nat.reduceAdd, Nat.reduceLT, ↓us_sl15Course, r_sl15Course, ho1.sq.facts]
  refine m_upto (coursingL l.length).length (fun k vs w' => vs = [S (((coursingL l.length).take k).map fun p => l.getD (p.toNat - 1) 0), .int .i64 k] ∧ Ext w1 w') ⟨rfl, Ext.refl _⟩ ?_
  rintro k vs w' hk ⟨rfl, hx⟩
  have ho := ho1.sq.ext hx
  have hcl := cou_len _ hl
  by_cases hlt : k < (coursingL l.length).length
  · have hp := cou_in _ hl k hlt
    obtain ⟨p, hpe⟩ : ∃ p : Nat, (coursingL l.length).getD k 0 = (p + 1 : Nat) := ⟨((coursingL l.length).getD k 0).toNat - 1, by omega⟩
    simp only [↓vsd, vsn, gW, qd, qv, ev, pick, argE, zipE, ne_eq, eq_self, forall_const, implies_true, if_true, if_false, reduceIte, reduceCtorEq, Nat.reduceEqDiff, Nat.reduceAdd, Nat.reduceLT, ↓us_sl15Course, r_sl15Course, ho.facts, ho.at1 0 hlt, hpe]
    rw [hpe] at hp
    rw [show ((p + 1 : Nat) - 1 : Int) = (p : Nat) by omega, Nat.add_sub_cancel, sub_one l p (by omega)]
    refine ⟨fun _ => ⟨by omega, inR_i64 (by omega), by omega, by simp; omega, inR_i64 (by omega), UpTo.next hlt ⟨?_, hx⟩⟩, fun h => by omega⟩
    rw [take_map_succ _ 0 _ _ hlt, hpe]; rfl
  · obtain rfl : k = (coursingL l.length).length := by omega
    simp only [↓vsd, vsn, gW, qd, qv, ev, pick, argE, zipE, ne_eq, eq_self, forall_const, implies_true, if_true, if_false, reduceIte, reduceCtorEq, Nat.reduceEqDiff, Nat.reduceAdd, Nat.reduceLT, ↓us_sl15Course, r_sl15Course, ho.facts]
    exact ⟨fun h => by omega, fun _ => ⟨hx1.trans hx, by rw [List.take_length]; rfl⟩⟩
theorem icourseOf_ok (l : List UInt8) (h0 : 0 < l.length) (hl : l.length < 9) (w : World) : Fn 261 [S l] w (fun v _ => v = S (courseL l)) := by
  (refine callsV_of mix Try.func261 c_icourseOf ?_; simp only [↓vsd, vsn, gW, qd, qv, ev, pick, argE, zipE, ne_eq, eq_self, forall_const, implies_true, if_true, if_false, reduceIte, reduceCtorEq, Nat.reduceEqDiff, Nat.reduceAdd, Nat.reduceLT, ↓us_icourseOf, r_icourseOf])
  refine m_call (icoursing_ok _ hl _) ?_
  rintro v1 w1 hx1 ho1
  simp only [↓vsd, vsn, gW, qd, qv, ev, pick, argE, zipE, ne_eq, eq_self, forall_const, implies_true, if_true, if_false, reduceIte, reduceCtorEq, Nat.reduceEqDiff, Nat.reduceAdd, Nat.reduceLT, ↓us_icourseOf, r_icourseOf, ho1.sq.facts]
  refine m_upto (coursingL l.length).length (fun k vs w' => vs = [S (((coursingL l.length).take k).map fun p => l.getD (p.toNat - 1) 0), .int .i64 k] ∧ Ext w1 w') ⟨rfl, Ext.refl _⟩ ?_
  rintro k vs w' hk ⟨rfl, hx⟩
  have ho := ho1.sq.ext hx
  have hcl := cou_len _ hl
  by_cases hlt : k < (coursingL l.length).length
  · have hp := cou_in _ hl k hlt
    obtain ⟨p, hpe⟩ : ∃ p : Nat, (coursingL l.length).getD k 0 = (p + 1 : Nat) := ⟨((coursingL l.length).getD k 0).toNat - 1, by omega⟩
    simp only [↓vsd, vsn, gW, qd, qv, ev, pick, argE, zipE, ne_eq, eq_self, forall_const, implies_true, if_true, if_false, reduceIte, reduceCtorEq, Nat.reduceEqDiff, Nat.reduceAdd, Nat.reduceLT, ↓us_icourseOf, r_icourseOf, ho.facts, ho.at1 0 hlt, hpe]
    rw [hpe] at hp
    rw [show ((p + 1 : Nat) - 1 : Int) = (p : Nat) by omega, Nat.add_sub_cancel, sub_one l p (by omega)]
    refine ⟨fun _ => ⟨by omega, inR_i64 (by omega), by omega, by simp; omega, inR_i64 (by omega), UpTo.next hlt ⟨?_, hx⟩⟩, fun h => by omega⟩
    rw [take_map_succ _ 0 _ _ hlt, hpe]; rfl
  · obtain rfl : k = (coursingL l.length).length := by omega
    simp only [↓vsd, vsn, gW, qd, qv, ev, pick, argE, zipE, ne_eq, eq_self, forall_const, implies_true, if_true, if_false, reduceIte, reduceCtorEq, Nat.reduceEqDiff, Nat.reduceAdd, Nat.reduceLT, ↓us_icourseOf, r_icourseOf, ho.facts]
    exact ⟨fun h => by omega, fun _ => ⟨hx1.trans hx, by rw [List.take_length]; rfl⟩⟩
def courseV (l : List UInt8) : Value := if IsRow l ∧ 4 ≤ l.length then .tuple ⟨[S (courseL l), .bool true]⟩ else .tuple ⟨[S [], .bool false]⟩
theorem iisBell_ok (n b : Int) (w : World) : Fn 201 [.int .i64 n, .int .i64 b] w (fun v _ => v = .bool (decide (1 ≤ b) && decide (b ≤ n))) := by
  (refine callsV_of mix Try.func201 c_iisBell ?_; simp only [↓vsd, vsn, gW, qd, qv, ev, pick, argE, zipE, ne_eq, eq_self, forall_const, implies_true, if_true, if_false, reduceIte, reduceCtorEq, Nat.reduceEqDiff, Nat.reduceAdd, Nat.reduceLT, ↓us_iisBell, r_iisBell])
  exact Ext.refl _
/-- The bells laid out after k of the course. -/
def rocM (n f : Nat) (l : List UInt8) : Nat → List UInt8
  | 0 => (List.replicate n 0).set 0 (UInt8.ofNat (48 + f))
  | k + 1 => (rocM n f l k).set ((coursingL n).getD k 0 - 1).toNat (l.getD k 0)
theorem rocM_len (n f : Nat) (l : List UInt8) (k : Nat) : (rocM n f l k).length = n := by
  induction k with
  | zero => simp [rocM]
  | succ k ih => simp [rocM, ih]
def rocV (f : Int) (l : List UInt8) : Value := if (4 ≤ l.length + 1 ∧ l.length + 1 ≤ 8) ∧ (1 ≤ f ∧ f ≤ l.length + 1) ∧ IsRow (rocM (l.length + 1) f.toNat l l.length) then .tuple ⟨[S (rocM (l.length + 1) f.toNat l l.length), .bool true]⟩ else .tuple ⟨[S [], .bool false]⟩
theorem iRowOfCourse_ok (f : Int) (l : List UInt8) (hl : l.length ≤ 1048576) (w : World) : Fn 146 [.int .i64 f, S l] w (fun v _ => v = rocV f l) := by
  (refine callsV_of mix Try.func146 c_iRowOfCourse ?_; simp only [↓vsd, vsn, gW, qd, qv, ev, pick, argE, zipE, ne_eq, eq_self, forall_const, implies_true, if_true, if_false, reduceIte, reduceCtorEq, Nat.reduceEqDiff, Nat.reduceAdd, Nat.reduceLT, ↓us_iRowOfCourse, r_iRowOfCourse])
  refine ⟨inR_i64 (by omega), ?_⟩
  refine m_call (iwithin_ok _ _ _ _) ?_
  rintro _ w1 hx1 rfl
  simp only [↓vsd, vsn, gW, qd, qv, ev, pick, argE, zipE, ne_eq, eq_self, forall_const, implies_true, if_true, if_false, reduceIte, reduceCtorEq, Nat.reduceEqDiff, Nat.reduceAdd, Nat.reduceLT, ↓us_iRowOfCourse, r_iRowOfCourse]
  refine ⟨fun h => m_call (iisBell_ok _ _ _) ?_, fun h => ⟨hx1, by rw [rocV, if_neg (fun hh => h ⟨by omega, by omega⟩)]⟩⟩
  rintro _ w2 hx2 rfl
  simp only [↓vsd, vsn, gW, qd, qv, ev, pick, argE, zipE, ne_eq, eq_self, forall_const, implies_true, if_true, if_false, reduceIte, reduceCtorEq, Nat.reduceEqDiff, Nat.reduceAdd, Nat.reduceLT, ↓us_iRowOfCourse, r_iRowOfCourse]
  refine ⟨fun h2 => ⟨hx1.trans hx2, by rw [rocV, if_neg (by omega)]⟩, fun h2 => ?_⟩
  obtain ⟨f, rfl⟩ : ∃ k : Nat, f = k := ⟨f.toNat, by omega⟩
  rw [show (l.length : Int) + 1 = (l.length + 1 : Nat) by rfl]
  refine m_msl (f := fU) (B := w.heap.size) (0 : UInt8) fU_len rfl (by omega) (by decide) (by have := (hx1.trans hx2).size; omega) ?_
  rintro vb w3 ho3 hb3 hx3
  simp only [↓vsd, vsn, gW, qd, qv, ev, pick, argE, zipE, ne_eq, eq_self, forall_const, implies_true, if_true, if_false, reduceIte, reduceCtorEq, Nat.reduceEqDiff, Nat.reduceAdd, Nat.reduceLT, ↓us_iRowOfCourse, r_iRowOfCourse, ho3.sq.facts]
  refine ⟨inR_i64 (by omega), inR_u8 (by omega), by simp, ?_⟩
  refine m_set1 0 (UInt8.ofNat (48 + f)) ho3 rfl (by simp) (by simp [fU, UInt8.toNat_ofNat', cells_int]; omega) fU_one ?_
  rintro w4 ho4 hg4 hs4
  have hx4 : Ext w w4 := ho3.grown ((hx1.trans hx2).trans hx3) (Nat.le_refl _) hg4
  simp only [↓vsd, vsn, gW, qd, qv, ev, pick, argE, zipE, ne_eq, eq_self, forall_const, implies_true, if_true, if_false, reduceIte, reduceCtorEq, Nat.reduceEqDiff, Nat.reduceAdd, Nat.reduceLT, ↓us_iRowOfCourse, r_iRowOfCourse]
  refine m_call (icoursing_ok (l.length + 1) (by omega) _) ?_
  rintro vp w5 hx5 ho5
  simp only [↓vsd, vsn, gW, qd, qv, ev, pick, argE, zipE, ne_eq, eq_self, forall_const, implies_true, if_true, if_false, reduceIte, reduceCtorEq, Nat.reduceEqDiff, Nat.reduceAdd, Nat.reduceLT, ↓us_iRowOfCourse, r_iRowOfCourse, ho5.sq.facts]
  have hcl := cou_len (l.length + 1) (by omega)
  have hvb := ho4.lt
  refine m_upto l.length (fun k vs w' => vs = [.int .i64 k] ∧ Own fU 1 5 w.heap.size w' vb (rocM (l.length + 1) f l k) ∧ Own fI 1 3 w4.heap.size w' vp (coursingL (l.length + 1)) ∧ Ext w w') ⟨rfl, ho4.ext hx5, ho5, hx4.trans hx5⟩ ?_
  rintro k vs w6 hk ⟨rfl, hob, hop, hx6⟩
  by_cases hlt : k < l.length
  · have hlt' : k < (coursingL (l.length + 1)).length := by omega
    have hp := cou_in _ (by omega) k hlt'
    simp only [↓vsd, vsn, gW, qd, qv, ev, pick, argE, zipE, ne_eq, eq_self, forall_const, implies_true, if_true, if_false, reduceIte, reduceCtorEq, Nat.reduceEqDiff, Nat.reduceAdd, Nat.reduceLT, ↓us_iRowOfCourse, r_iRowOfCourse, hop.sq.facts, hob.sq.facts, hop.sq.at1 0 hlt', rocM_len]
    ((repeat' (first | (with_reducible refine And.intro ?_ ?_) | intro _)) <;> (try first | omega | ((with_reducible refine inR_i64 ?_) <;> omega) | ((with_reducible refine inR_u8 ?_) <;> omega) | with_reducible assumption | exact Ext.refl _))
    refine m_set1 ((coursingL (l.length + 1)).getD k 0 - 1).toNat (l.getD k 0) hob (by omega) (by rw [rocM_len]; omega) rfl fU_one ?_
    rintro w7 ho7 hg7 hs7
    simp only [↓vsd, vsn, gW, qd, qv, ev, pick, argE, zipE, ne_eq, eq_self, forall_const, implies_true, if_true, if_false, reduceIte, reduceCtorEq, Nat.reduceEqDiff, Nat.reduceAdd, Nat.reduceLT, ↓us_iRowOfCourse, r_iRowOfCourse]
    exact ⟨inR_i64 (by omega), UpTo.next hlt ⟨rfl, ho7, hop.keep hg7 hvb, hob.grown hx6 (Nat.le_refl _) hg7⟩⟩
  · obtain rfl : k = l.length := by omega
    simp only [↓vsd, vsn, gW, qd, qv, ev, pick, argE, zipE, ne_eq, eq_self, forall_const, implies_true, if_true, if_false, reduceIte, reduceCtorEq, Nat.reduceEqDiff, Nat.reduceAdd, Nat.reduceLT, ↓us_iRowOfCourse, r_iRowOfCourse, hop.sq.facts]
    refine ⟨fun h => by omega, fun _ => ?_⟩
    refine m_b2s hob.sq ?_
    simp only [↓vsd, vsn, gW, qd, qv, ev, pick, argE, zipE, ne_eq, eq_self, forall_const, implies_true, if_true, if_false, reduceIte, reduceCtorEq, Nat.reduceEqDiff, Nat.reduceAdd, Nat.reduceLT, ↓us_iRowOfCourse, r_iRowOfCourse]
    refine m_call (iGoodRow_ok _ _) ?_
    rintro _ w8 hx8 rfl
    simp only [↓vsd, vsn, gW, qd, qv, ev, pick, argE, zipE, ne_eq, eq_self, forall_const, implies_true, if_true, if_false, reduceIte, reduceCtorEq, Nat.reduceEqDiff, Nat.reduceAdd, Nat.reduceLT, ↓us_iRowOfCourse, r_iRowOfCourse]
    refine ⟨fun hno => ⟨hx6.trans hx8, by rw [rocV, if_neg (fun hh => hno hh.2.2)]⟩, fun hyes => ?_⟩
    refine m_b2s (hob.ext hx8).sq ?_
    simp only [↓vsd, vsn, gW, qd, qv, ev, pick, argE, zipE, ne_eq, eq_self, forall_const, implies_true, if_true, if_false, reduceIte, reduceCtorEq, Nat.reduceEqDiff, Nat.reduceAdd, Nat.reduceLT, ↓us_iRowOfCourse, r_iRowOfCourse]
    exact ⟨hx6.trans hx8, by rw [rocV, if_pos ⟨by omega, by omega, hyes⟩]; rfl⟩
end Go.Proofs.Ytpnopboffalfnaa
