/-
  The draws of FnCourse.
  Conditions: none.
-/
import Derived.Test.YtjcnmobdlkmaeaaD15
import Derived.Test.YtjcnmobdlkmaeaaA12
import Derived.Test.YtjcnmobdlkmaeaaPe
set_option linter.unusedSimpArgs false
set_option linter.unusedVariables false
set_option linter.defProp false
namespace Go.Proofs.Ytjcnmobdlkmaeaa
open Go Go.RowKit
def t_sDrawGoodRow_1 : X := (.cond (.t 8) (.seq (.reg [2] (.c (.q 9 [] (.mv (.t 3))) (.c (.e (some 10) [] (.bsl 9 1 [(.s []), (.s [49, 50]), (.s [49, 50, 51]), (.s [49, 50, 51, 52]), (.s [49, 49, 50, 51]), (.s [48, 49, 50, 51]), (.s [49, 50, 51, 52, 53, 54, 55, 56]), (.s [49, 50, 51, 52, 53, 54, 55, 56, 57]), (.s [49, 50, 52])])) (.c (.e (some 11) [] (.call true 149 [(.t 9), (.t 10)])) (.c (.q 2 [] (.mv (.t 11))) .nil))))) .ret) .skip)
theorem u_sDrawGoodRow_1 (P : Program) (k : KT) (e : Env) (w : World) : vcK P t_sDrawGoodRow_1 k e w = vcK P (.cond (.t 8) (.seq (.reg [2] (.c (.q 9 [] (.mv (.t 3))) (.c (.e (some 10) [] (.bsl 9 1 [(.s []), (.s [49, 50]), (.s [49, 50, 51]), (.s [49, 50, 51, 52]), (.s [49, 49, 50, 51]), (.s [48, 49, 50, 51]), (.s [49, 50, 51, 52, 53, 54, 55, 56]), (.s [49, 50, 51, 52, 53, 54, 55, 56, 57]), (.s [49, 50, 52])])) (.c (.e (some 11) [] (.call true 149 [(.t 9), (.t 10)])) (.c (.q 2 [] (.mv (.t 11))) .nil))))) .ret) .skip) k e w := rfl
def t_sDrawGoodRow_2 : X := (.seq (.reg [2] (.c (.q 12 [] (.mv (.t 3))) (.c (.e (some 13) [] (.call true 145 [(.t 12)])) (.c (.q 2 [] (.mv (.t 13))) .nil)))) .ret)
theorem u_sDrawGoodRow_2 (P : Program) (k : KT) (e : Env) (w : World) : vcK P t_sDrawGoodRow_2 k e w = vcK P (.seq (.reg [2] (.c (.q 12 [] (.mv (.t 3))) (.c (.e (some 13) [] (.call true 145 [(.t 12)])) (.c (.q 2 [] (.mv (.t 13))) .nil)))) .ret) k e w := rfl
def t_sDrawGoodRow_3 : X := (.seq (.seq (.reg [3, 8] (.c (.q 7 [] (.mv (.t 3))) (.c (.e (some 8) [] (.call true 147 [(.t 7), (.c (.int .i64 4))])) .nil))) t_sDrawGoodRow_1) t_sDrawGoodRow_2)
theorem u_sDrawGoodRow_3 (P : Program) (k : KT) (e : Env) (w : World) : vcK P t_sDrawGoodRow_3 k e w = vcK P (.seq (.seq (.reg [3, 8] (.c (.q 7 [] (.mv (.t 3))) (.c (.e (some 8) [] (.call true 147 [(.t 7), (.c (.int .i64 4))])) .nil))) t_sDrawGoodRow_1) t_sDrawGoodRow_2) k e w := rfl
def t_sDrawGoodRow_4 : X := (.seq (.reg [3] (.c (.q 4 [] (.mv (.t 0))) (.c (.q 5 [] (.bld [(.slice none 0 0), (.int .i64 0), (.int .u64 0)] [(0, 0, (.t 4))])) (.c (.e (some 6) [] (.box 116 (.t 5))) (.c (.q 3 [] (.mv (.t 6))) .nil))))) t_sDrawGoodRow_3)
theorem u_sDrawGoodRow_4 (P : Program) (k : KT) (e : Env) (w : World) : vcK P t_sDrawGoodRow_4 k e w = vcK P (.seq (.reg [3] (.c (.q 4 [] (.mv (.t 0))) (.c (.q 5 [] (.bld [(.slice none 0 0), (.int .i64 0), (.int .u64 0)] [(0, 0, (.t 4))])) (.c (.e (some 6) [] (.box 116 (.t 5))) (.c (.q 3 [] (.mv (.t 6))) .nil))))) t_sDrawGoodRow_3) k e w := rfl
def x_sDrawGoodRow : X := (.seq (.reg [0] (.c (.q 2 [] (.mv (.s []))) .nil)) t_sDrawGoodRow_4)
theorem u_sDrawGoodRow (P : Program) (k : KT) (e : Env) (w : World) : vcK P x_sDrawGoodRow k e w = vcK P (.seq (.reg [0] (.c (.q 2 [] (.mv (.s []))) .nil)) t_sDrawGoodRow_4) k e w := rfl
def r_sDrawGoodRow : List XO := [(.mv (.t 2))]
theorem c_sDrawGoodRow : convF Try.prog [145, 147, 148, 149, 158, 205, 206, 232, 234, 247, 248, 256, 261, 283, 284, 299, 300, 307] Try.f246 [([0], []), ([3], []), ([3, 8], []), ([2], []), ([2], [])] = some (x_sDrawGoodRow, r_sDrawGoodRow) := by kernel_rfl
def us_sDrawGoodRow := And.intro @u_sDrawGoodRow (And.intro @u_sDrawGoodRow_1 (And.intro @u_sDrawGoodRow_2 (And.intro @u_sDrawGoodRow_3 @u_sDrawGoodRow_4)))
def t_sDrawCourseOf_1 : X := (.seq (.reg [2] (.c (.q 3 [] (.mv (.t 0))) (.c (.e (some 4) [] (.call false 246 [(.t 3)])) (.c (.q 2 [] (.mv (.t 4))) .nil)))) .ret)
theorem u_sDrawCourseOf_1 (P : Program) (k : KT) (e : Env) (w : World) : vcK P t_sDrawCourseOf_1 k e w = vcK P (.seq (.reg [2] (.c (.q 3 [] (.mv (.t 0))) (.c (.e (some 4) [] (.call false 246 [(.t 3)])) (.c (.q 2 [] (.mv (.t 4))) .nil)))) .ret) k e w := rfl
def x_sDrawCourseOf : X := (.seq (.reg [0] (.c (.q 2 [] (.mv (.s []))) .nil)) t_sDrawCourseOf_1)
theorem u_sDrawCourseOf (P : Program) (k : KT) (e : Env) (w : World) : vcK P x_sDrawCourseOf k e w = vcK P (.seq (.reg [0] (.c (.q 2 [] (.mv (.s []))) .nil)) t_sDrawCourseOf_1) k e w := rfl
def r_sDrawCourseOf : List XO := [(.mv (.t 2))]
theorem c_sDrawCourseOf : convF Try.prog [145, 147, 148, 149, 158, 205, 206, 232, 234, 247, 248, 256, 261, 283, 284, 299, 300, 307] Try.f111 [([0], []), ([2], [])] = some (x_sDrawCourseOf, r_sDrawCourseOf) := by kernel_rfl
def us_sDrawCourseOf := And.intro @u_sDrawCourseOf @u_sDrawCourseOf_1
def t_sDrawRowOfCourse_1 : X := (.cond (.t 26) (.reg [6, 7] (.c (.q 28 [] (.mv (.t 4))) (.c (.q 29 [] (.mv (.t 7))) (.c (.e (some 30) [] (.call true 248 [(.t 28), (.t 29), (.s [49, 50, 57, 48])])) (.c (.q 7 [] (.mv (.t 30))) .nil))))) .skip)
theorem u_sDrawRowOfCourse_1 (P : Program) (k : KT) (e : Env) (w : World) : vcK P t_sDrawRowOfCourse_1 k e w = vcK P (.cond (.t 26) (.reg [6, 7] (.c (.q 28 [] (.mv (.t 4))) (.c (.q 29 [] (.mv (.t 7))) (.c (.e (some 30) [] (.call true 248 [(.t 28), (.t 29), (.s [49, 50, 57, 48])])) (.c (.q 7 [] (.mv (.t 30))) .nil))))) .skip) k e w := rfl
def t_sDrawRowOfCourse_2 : X := (.cond (.t 22) (.reg [6, 7] (.c (.q 24 [] (.mv (.t 4))) (.c (.e (some 25) [] (.call true 206 [(.t 24), (.c (.int .i64 10))])) (.c (.q 6 [] (.mv (.t 25))) .nil)))) (.seq (.reg [4, 6, 7, 26] (.c (.q 27 [] (.bin .eql (.t 21) (.c (.int .i64 1)))) (.c (.q 26 [] (.mv (.t 27))) .nil))) t_sDrawRowOfCourse_1))
theorem u_sDrawRowOfCourse_2 (P : Program) (k : KT) (e : Env) (w : World) : vcK P t_sDrawRowOfCourse_2 k e w = vcK P (.cond (.t 22) (.reg [6, 7] (.c (.q 24 [] (.mv (.t 4))) (.c (.e (some 25) [] (.call true 206 [(.t 24), (.c (.int .i64 10))])) (.c (.q 6 [] (.mv (.t 25))) .nil)))) (.seq (.reg [4, 6, 7, 26] (.c (.q 27 [] (.bin .eql (.t 21) (.c (.int .i64 1)))) (.c (.q 26 [] (.mv (.t 27))) .nil))) t_sDrawRowOfCourse_1)) k e w := rfl
def t_sDrawRowOfCourse_3 : X := (.blk 0 (.seq (.reg [4, 6, 7, 21, 22] (.c (.q 23 [] (.bin .eql (.t 21) (.c (.int .i64 0)))) (.c (.q 22 [] (.mv (.t 23))) .nil))) t_sDrawRowOfCourse_2))
theorem u_sDrawRowOfCourse_3 (P : Program) (k : KT) (e : Env) (w : World) : vcK P t_sDrawRowOfCourse_3 k e w = vcK P (.blk 0 (.seq (.reg [4, 6, 7, 21, 22] (.c (.q 23 [] (.bin .eql (.t 21) (.c (.int .i64 0)))) (.c (.q 22 [] (.mv (.t 23))) .nil))) t_sDrawRowOfCourse_2)) k e w := rfl
def t_sDrawRowOfCourse_4 : X := (.seq (.reg [2, 3] (.c (.q 31 [] (.mv (.t 6))) (.c (.q 32 [] (.mv (.t 7))) (.c (.q 2 [] (.mv (.t 31))) (.c (.q 3 [] (.mv (.t 32))) .nil))))) .ret)
theorem u_sDrawRowOfCourse_4 (P : Program) (k : KT) (e : Env) (w : World) : vcK P t_sDrawRowOfCourse_4 k e w = vcK P (.seq (.reg [2, 3] (.c (.q 31 [] (.mv (.t 6))) (.c (.q 32 [] (.mv (.t 7))) (.c (.q 2 [] (.mv (.t 31))) (.c (.q 3 [] (.mv (.t 32))) .nil))))) .ret) k e w := rfl
def t_sDrawRowOfCourse_5 : X := (.seq (.seq (.reg [4, 6, 7, 21] (.c (.q 20 [] (.mv (.t 4))) (.c (.e (some 21) [] (.call true 206 [(.t 20), (.c (.int .i64 8))])) .nil))) t_sDrawRowOfCourse_3) t_sDrawRowOfCourse_4)
theorem u_sDrawRowOfCourse_5 (P : Program) (k : KT) (e : Env) (w : World) : vcK P t_sDrawRowOfCourse_5 k e w = vcK P (.seq (.seq (.reg [4, 6, 7, 21] (.c (.q 20 [] (.mv (.t 4))) (.c (.e (some 21) [] (.call true 206 [(.t 20), (.c (.int .i64 8))])) .nil))) t_sDrawRowOfCourse_3) t_sDrawRowOfCourse_4) k e w := rfl
def t_sDrawRowOfCourse_6 : X := (.seq (.reg [4, 6, 7] (.c (.q 18 [] (.mv (.t 5))) (.c (.e (some 19) [] (.call false 179 [(.t 18)])) (.c (.q 7 [] (.mv (.t 19))) .nil)))) t_sDrawRowOfCourse_5)
theorem u_sDrawRowOfCourse_6 (P : Program) (k : KT) (e : Env) (w : World) : vcK P t_sDrawRowOfCourse_6 k e w = vcK P (.seq (.reg [4, 6, 7] (.c (.q 18 [] (.mv (.t 5))) (.c (.e (some 19) [] (.call false 179 [(.t 18)])) (.c (.q 7 [] (.mv (.t 19))) .nil)))) t_sDrawRowOfCourse_5) k e w := rfl
def t_sDrawRowOfCourse_7 : X := (.seq (.reg [4, 5, 6] (.c (.q 16 [] (.mv (.t 5))) (.c (.e (some 17) [] (.call false 195 [(.t 16), (.c (.int .i64 1))])) (.c (.q 6 [] (.mv (.t 17))) .nil)))) t_sDrawRowOfCourse_6)
theorem u_sDrawRowOfCourse_7 (P : Program) (k : KT) (e : Env) (w : World) : vcK P t_sDrawRowOfCourse_7 k e w = vcK P (.seq (.reg [4, 5, 6] (.c (.q 16 [] (.mv (.t 5))) (.c (.e (some 17) [] (.call false 195 [(.t 16), (.c (.int .i64 1))])) (.c (.q 6 [] (.mv (.t 17))) .nil)))) t_sDrawRowOfCourse_6) k e w := rfl
def t_sDrawRowOfCourse_8 : X := (.seq (.reg [4, 5] (.c (.q 11 [] (.mv (.t 4))) (.c (.q 12 [] (.mv (.t 4))) (.c (.e (some 13) [] (.bsl 3 1 [(.c (.int .i64 4)), (.c (.int .i64 5)), (.c (.int .i64 6)), (.c (.int .i64 7)), (.c (.int .i64 8))])) (.c (.e (some 14) [] (.call true 234 [(.t 12), (.t 13)])) (.c (.e (some 15) [] (.call true 247 [(.t 11), (.t 14)])) (.c (.q 5 [] (.mv (.t 15))) .nil))))))) t_sDrawRowOfCourse_7)
theorem u_sDrawRowOfCourse_8 (P : Program) (k : KT) (e : Env) (w : World) : vcK P t_sDrawRowOfCourse_8 k e w = vcK P (.seq (.reg [4, 5] (.c (.q 11 [] (.mv (.t 4))) (.c (.q 12 [] (.mv (.t 4))) (.c (.e (some 13) [] (.bsl 3 1 [(.c (.int .i64 4)), (.c (.int .i64 5)), (.c (.int .i64 6)), (.c (.int .i64 7)), (.c (.int .i64 8))])) (.c (.e (some 14) [] (.call true 234 [(.t 12), (.t 13)])) (.c (.e (some 15) [] (.call true 247 [(.t 11), (.t 14)])) (.c (.q 5 [] (.mv (.t 15))) .nil))))))) t_sDrawRowOfCourse_7) k e w := rfl
def t_sDrawRowOfCourse_9 : X := (.seq (.reg [4] (.c (.q 8 [] (.mv (.t 0))) (.c (.q 9 [] (.bld [(.slice none 0 0), (.int .i64 0), (.int .u64 0)] [(0, 0, (.t 8))])) (.c (.e (some 10) [] (.box 116 (.t 9))) (.c (.q 4 [] (.mv (.t 10))) .nil))))) t_sDrawRowOfCourse_8)
theorem u_sDrawRowOfCourse_9 (P : Program) (k : KT) (e : Env) (w : World) : vcK P t_sDrawRowOfCourse_9 k e w = vcK P (.seq (.reg [4] (.c (.q 8 [] (.mv (.t 0))) (.c (.q 9 [] (.bld [(.slice none 0 0), (.int .i64 0), (.int .u64 0)] [(0, 0, (.t 8))])) (.c (.e (some 10) [] (.box 116 (.t 9))) (.c (.q 4 [] (.mv (.t 10))) .nil))))) t_sDrawRowOfCourse_8) k e w := rfl
def x_sDrawRowOfCourse : X := (.seq (.reg [0] (.c (.q 2 [] (.mv (.c (.int .i64 0)))) (.c (.q 3 [] (.mv (.s []))) .nil))) t_sDrawRowOfCourse_9)
theorem u_sDrawRowOfCourse (P : Program) (k : KT) (e : Env) (w : World) : vcK P x_sDrawRowOfCourse k e w = vcK P (.seq (.reg [0] (.c (.q 2 [] (.mv (.c (.int .i64 0)))) (.c (.q 3 [] (.mv (.s []))) .nil))) t_sDrawRowOfCourse_9) k e w := rfl
def r_sDrawRowOfCourse : List XO := [(.mv (.t 2)), (.mv (.t 3))]
theorem c_sDrawRowOfCourse : convF Try.prog [145, 147, 148, 149, 158, 205, 206, 232, 234, 247, 248, 256, 261, 283, 284, 299, 300, 307] Try.f114 [([0], []), ([4], []), ([4, 5], []), ([4, 5, 6], []), ([4, 6, 7], []), ([4, 6, 7, 21], []), ([4, 6, 7, 21, 22], []), ([6, 7], []), ([4, 6, 7, 26], []), ([6, 7], []), ([2, 3], [])] = some (x_sDrawRowOfCourse, r_sDrawRowOfCourse) := by kernel_rfl
def us_sDrawRowOfCourse := And.intro @u_sDrawRowOfCourse (And.intro @u_sDrawRowOfCourse_1 (And.intro @u_sDrawRowOfCourse_2 (And.intro @u_sDrawRowOfCourse_3 (And.intro @u_sDrawRowOfCourse_4 (And.intro @u_sDrawRowOfCourse_5 (And.intro @u_sDrawRowOfCourse_6 (And.intro @u_sDrawRowOfCourse_7 (And.intro @u_sDrawRowOfCourse_8 @u_sDrawRowOfCourse_9))))))))
def t_sl1Cur_regular_1 : X := (.cond (.t 23) .skip (.exit 0))
theorem u_sl1Cur_regular_1 (P : Program) (k : KT) (e : Env) (w : World) : vcK P t_sl1Cur_regular_1 k e w = vcK P (.cond (.t 23) .skip (.exit 0)) k e w := rfl
def t_sl1Cur_regular_2 : X := (.reg [0, 2, 3, 4] (.c (.q 24 [] (.mv (.t 4))) (.c (.q 25 [] (.bin .add (.t 24) (.c (.int .i64 1)))) (.c (.q 4 [] (.mv (.t 25))) .nil))))
theorem u_sl1Cur_regular_2 (P : Program) (k : KT) (e : Env) (w : World) : vcK P t_sl1Cur_regular_2 k e w = vcK P (.reg [0, 2, 3, 4] (.c (.q 24 [] (.mv (.t 4))) (.c (.q 25 [] (.bin .add (.t 24) (.c (.int .i64 1)))) (.c (.q 4 [] (.mv (.t 25))) .nil)))) k e w := rfl
def t_sl1Cur_regular_3 : X := (.seq (.blk 1 (.reg [0, 2, 3, 4] (.c (.q 26 [] (.mv (.t 0))) (.c (.e (some 27) [] (.call true 232 [(.t 26)])) (.c (.e none [] (.st 3 (.t 3) (.t 27))) .nil))))) t_sl1Cur_regular_2)
theorem u_sl1Cur_regular_3 (P : Program) (k : KT) (e : Env) (w : World) : vcK P t_sl1Cur_regular_3 k e w = vcK P (.seq (.blk 1 (.reg [0, 2, 3, 4] (.c (.q 26 [] (.mv (.t 0))) (.c (.e (some 27) [] (.call true 232 [(.t 26)])) (.c (.e none [] (.st 3 (.t 3) (.t 27))) .nil))))) t_sl1Cur_regular_2) k e w := rfl
def t_sl1Cur_regular_4 : X := (.seq (.seq (.reg [0, 2, 3, 4, 23] (.c (.q 7 [] (.mv (.t 4))) (.c (.q 8 [] (.bin .lss (.t 7) (.c (.int .i64 30)))) (.c (.q 9 [] (.mv (.t 8))) (.c (.q 10 [(9, true)] (.fa 1 (.t 3))) (.c (.q 11 [(9, true)] (.ld (.t 10))) (.c (.q 12 [(9, true)] (.bin .lss (.t 11) (.c (.int .i64 4)))) (.c (.q 13 [(9, true)] (.mv (.t 12))) (.c (.q 14 [(13, false), (9, true)] (.mv (.t 0))) (.c (.e (some 15) [(13, false), (9, true)] (.call true 147 [(.t 14), (.c (.int .i64 9))])) (.c (.q 16 [(13, false), (9, true)] (.not (.t 15))) (.c (.q 17 [(13, false), (9, true)] (.mv (.t 16))) (.c (.q 18 [(17, true), (13, false), (9, true)] (.lda 3 (.t 3))) (.c (.e (some 19) [(17, true), (13, false), (9, true)] (.call false 254 [(.t 18)])) (.c (.q 20 [(17, true), (13, false), (9, true)] (.bin .eql (.t 19) (.c (.int .i64 0)))) (.c (.q 21 [(13, false), (9, true)] (.pick (.t 17) (.t 20) (.c (.bool false)))) (.c (.q 22 [(9, true)] (.pick (.t 13) (.c (.bool true)) (.t 21))) (.c (.q 23 [] (.pick (.t 9) (.t 22) (.c (.bool false)))) .nil)))))))))))))))))) t_sl1Cur_regular_1) t_sl1Cur_regular_3)
theorem u_sl1Cur_regular_4 (P : Program) (k : KT) (e : Env) (w : World) : vcK P t_sl1Cur_regular_4 k e w = vcK P (.seq (.seq (.reg [0, 2, 3, 4, 23] (.c (.q 7 [] (.mv (.t 4))) (.c (.q 8 [] (.bin .lss (.t 7) (.c (.int .i64 30)))) (.c (.q 9 [] (.mv (.t 8))) (.c (.q 10 [(9, true)] (.fa 1 (.t 3))) (.c (.q 11 [(9, true)] (.ld (.t 10))) (.c (.q 12 [(9, true)] (.bin .lss (.t 11) (.c (.int .i64 4)))) (.c (.q 13 [(9, true)] (.mv (.t 12))) (.c (.q 14 [(13, false), (9, true)] (.mv (.t 0))) (.c (.e (some 15) [(13, false), (9, true)] (.call true 147 [(.t 14), (.c (.int .i64 9))])) (.c (.q 16 [(13, false), (9, true)] (.not (.t 15))) (.c (.q 17 [(13, false), (9, true)] (.mv (.t 16))) (.c (.q 18 [(17, true), (13, false), (9, true)] (.lda 3 (.t 3))) (.c (.e (some 19) [(17, true), (13, false), (9, true)] (.call false 254 [(.t 18)])) (.c (.q 20 [(17, true), (13, false), (9, true)] (.bin .eql (.t 19) (.c (.int .i64 0)))) (.c (.q 21 [(13, false), (9, true)] (.pick (.t 17) (.t 20) (.c (.bool false)))) (.c (.q 22 [(9, true)] (.pick (.t 13) (.c (.bool true)) (.t 21))) (.c (.q 23 [] (.pick (.t 9) (.t 22) (.c (.bool false)))) .nil)))))))))))))))))) t_sl1Cur_regular_1) t_sl1Cur_regular_3) k e w := rfl
def t_sl1Cur_regular_5 : X := (.blk 0 (.loop [4] [0, 2, 3] t_sl1Cur_regular_4))
theorem u_sl1Cur_regular_5 (P : Program) (k : KT) (e : Env) (w : World) : vcK P t_sl1Cur_regular_5 k e w = vcK P (.blk 0 (.loop [4] [0, 2, 3] t_sl1Cur_regular_4)) k e w := rfl
def t_sl1Cur_regular_6 : X := (.seq (.reg [2] (.c (.q 28 [] (.lda 3 (.t 3))) (.c (.e none [] (.st 3 (.t 2) (.t 28))) .nil))) .ret)
theorem u_sl1Cur_regular_6 (P : Program) (k : KT) (e : Env) (w : World) : vcK P t_sl1Cur_regular_6 k e w = vcK P (.seq (.reg [2] (.c (.q 28 [] (.lda 3 (.t 3))) (.c (.e none [] (.st 3 (.t 2) (.t 28))) .nil))) .ret) k e w := rfl
def t_sl1Cur_regular_7 : X := (.seq (.seq (.reg [0, 2, 3, 4] (.c (.q 4 [] (.mv (.c (.int .i64 0)))) .nil)) t_sl1Cur_regular_5) t_sl1Cur_regular_6)
theorem u_sl1Cur_regular_7 (P : Program) (k : KT) (e : Env) (w : World) : vcK P t_sl1Cur_regular_7 k e w = vcK P (.seq (.seq (.reg [0, 2, 3, 4] (.c (.q 4 [] (.mv (.c (.int .i64 0)))) .nil)) t_sl1Cur_regular_5) t_sl1Cur_regular_6) k e w := rfl
def t_sl1Cur_regular_8 : X := (.seq (.reg [0, 2, 3] (.c (.q 5 [] (.mv (.t 0))) (.c (.e (some 6) [] (.call true 232 [(.t 5)])) (.c (.e (some 3) [] (.al 58 [(S []), (.int .i64 0), (.slice none 0 0)])) (.c (.e none [] (.st 3 (.t 3) (.t 6))) .nil))))) t_sl1Cur_regular_7)
theorem u_sl1Cur_regular_8 (P : Program) (k : KT) (e : Env) (w : World) : vcK P t_sl1Cur_regular_8 k e w = vcK P (.seq (.reg [0, 2, 3] (.c (.q 5 [] (.mv (.t 0))) (.c (.e (some 6) [] (.call true 232 [(.t 5)])) (.c (.e (some 3) [] (.al 58 [(S []), (.int .i64 0), (.slice none 0 0)])) (.c (.e none [] (.st 3 (.t 3) (.t 6))) .nil))))) t_sl1Cur_regular_7) k e w := rfl
def x_sl1Cur_regular : X := (.seq (.reg [0, 2] (.c (.e (some 2) [] (.al 58 [(S []), (.int .i64 0), (.slice none 0 0)])) .nil)) t_sl1Cur_regular_8)
theorem u_sl1Cur_regular (P : Program) (k : KT) (e : Env) (w : World) : vcK P x_sl1Cur_regular k e w = vcK P (.seq (.reg [0, 2] (.c (.e (some 2) [] (.al 58 [(S []), (.int .i64 0), (.slice none 0 0)])) .nil)) t_sl1Cur_regular_8) k e w := rfl
def r_sl1Cur_regular : List XO := [(.lda 3 (.t 2))]
theorem c_sl1Cur_regular : convF Try.prog [145, 147, 148, 149, 158, 205, 206, 232, 234, 247, 248, 256, 261, 283, 284, 299, 300, 307] Try.f299 [([0, 2], []), ([0, 2, 3], []), ([0, 2, 3, 4], []), ([4], [0, 2, 3]), ([0, 2, 3, 4, 23], []), ([0, 2, 3, 4], []), ([0, 2, 3, 4], []), ([2], [])] = some (x_sl1Cur_regular, r_sl1Cur_regular) := by kernel_rfl
def us_sl1Cur_regular := And.intro @u_sl1Cur_regular (And.intro @u_sl1Cur_regular_1 (And.intro @u_sl1Cur_regular_2 (And.intro @u_sl1Cur_regular_3 (And.intro @u_sl1Cur_regular_4 (And.intro @u_sl1Cur_regular_5 (And.intro @u_sl1Cur_regular_6 (And.intro @u_sl1Cur_regular_7 @u_sl1Cur_regular_8)))))))
def t_sDrawIsRegular_1 : X := (.cond (.t 8) (.seq (.reg [2] (.c (.q 9 [] (.mv (.t 3))) (.c (.e (some 10) [] (.call true 205 [(.t 9)])) (.c (.e none [] (.st 3 (.t 2) (.t 10))) .nil)))) .ret) .skip)
theorem u_sDrawIsRegular_1 (P : Program) (k : KT) (e : Env) (w : World) : vcK P t_sDrawIsRegular_1 k e w = vcK P (.cond (.t 8) (.seq (.reg [2] (.c (.q 9 [] (.mv (.t 3))) (.c (.e (some 10) [] (.call true 205 [(.t 9)])) (.c (.e none [] (.st 3 (.t 2) (.t 10))) .nil)))) .ret) .skip) k e w := rfl
def t_sDrawIsRegular_2 : X := (.seq (.reg [2] (.c (.q 11 [] (.mv (.t 3))) (.c (.e (some 12) [] (.call true 299 [(.t 11)])) (.c (.e none [] (.st 3 (.t 2) (.t 12))) .nil)))) .ret)
theorem u_sDrawIsRegular_2 (P : Program) (k : KT) (e : Env) (w : World) : vcK P t_sDrawIsRegular_2 k e w = vcK P (.seq (.reg [2] (.c (.q 11 [] (.mv (.t 3))) (.c (.e (some 12) [] (.call true 299 [(.t 11)])) (.c (.e none [] (.st 3 (.t 2) (.t 12))) .nil)))) .ret) k e w := rfl
def t_sDrawIsRegular_3 : X := (.seq (.seq (.reg [2, 3, 8] (.c (.q 7 [] (.mv (.t 3))) (.c (.e (some 8) [] (.call true 147 [(.t 7), (.c (.int .i64 6))])) .nil))) t_sDrawIsRegular_1) t_sDrawIsRegular_2)
theorem u_sDrawIsRegular_3 (P : Program) (k : KT) (e : Env) (w : World) : vcK P t_sDrawIsRegular_3 k e w = vcK P (.seq (.seq (.reg [2, 3, 8] (.c (.q 7 [] (.mv (.t 3))) (.c (.e (some 8) [] (.call true 147 [(.t 7), (.c (.int .i64 6))])) .nil))) t_sDrawIsRegular_1) t_sDrawIsRegular_2) k e w := rfl
def t_sDrawIsRegular_4 : X := (.seq (.reg [2, 3] (.c (.q 4 [] (.mv (.t 0))) (.c (.q 5 [] (.bld [(.slice none 0 0), (.int .i64 0), (.int .u64 0)] [(0, 0, (.t 4))])) (.c (.e (some 6) [] (.box 116 (.t 5))) (.c (.q 3 [] (.mv (.t 6))) .nil))))) t_sDrawIsRegular_3)
theorem u_sDrawIsRegular_4 (P : Program) (k : KT) (e : Env) (w : World) : vcK P t_sDrawIsRegular_4 k e w = vcK P (.seq (.reg [2, 3] (.c (.q 4 [] (.mv (.t 0))) (.c (.q 5 [] (.bld [(.slice none 0 0), (.int .i64 0), (.int .u64 0)] [(0, 0, (.t 4))])) (.c (.e (some 6) [] (.box 116 (.t 5))) (.c (.q 3 [] (.mv (.t 6))) .nil))))) t_sDrawIsRegular_3) k e w := rfl
def x_sDrawIsRegular : X := (.seq (.reg [0, 2] (.c (.e (some 2) [] (.al 58 [(S []), (.int .i64 0), (.slice none 0 0)])) .nil)) t_sDrawIsRegular_4)
theorem u_sDrawIsRegular (P : Program) (k : KT) (e : Env) (w : World) : vcK P x_sDrawIsRegular k e w = vcK P (.seq (.reg [0, 2] (.c (.e (some 2) [] (.al 58 [(S []), (.int .i64 0), (.slice none 0 0)])) .nil)) t_sDrawIsRegular_4) k e w := rfl
def r_sDrawIsRegular : List XO := [(.lda 3 (.t 2))]
theorem c_sDrawIsRegular : convF Try.prog [145, 147, 148, 149, 158, 205, 206, 232, 234, 247, 248, 256, 261, 283, 284, 299, 300, 307] Try.f252 [([0, 2], []), ([2, 3], []), ([2, 3, 8], []), ([2], []), ([2], [])] = some (x_sDrawIsRegular, r_sDrawIsRegular) := by kernel_rfl
def us_sDrawIsRegular := And.intro @u_sDrawIsRegular (And.intro @u_sDrawIsRegular_1 (And.intro @u_sDrawIsRegular_2 (And.intro @u_sDrawIsRegular_3 @u_sDrawIsRegular_4)))
def t_sDrawTurnOf_1 : X := (.seq (.reg [2] (.c (.q 3 [] (.mv (.t 0))) (.c (.e (some 4) [] (.call false 252 [(.t 3)])) (.c (.e none [] (.st 3 (.t 2) (.t 4))) .nil)))) .ret)
theorem u_sDrawTurnOf_1 (P : Program) (k : KT) (e : Env) (w : World) : vcK P t_sDrawTurnOf_1 k e w = vcK P (.seq (.reg [2] (.c (.q 3 [] (.mv (.t 0))) (.c (.e (some 4) [] (.call false 252 [(.t 3)])) (.c (.e none [] (.st 3 (.t 2) (.t 4))) .nil)))) .ret) k e w := rfl
def x_sDrawTurnOf : X := (.seq (.reg [0, 2] (.c (.e (some 2) [] (.al 58 [(S []), (.int .i64 0), (.slice none 0 0)])) .nil)) t_sDrawTurnOf_1)
theorem u_sDrawTurnOf (P : Program) (k : KT) (e : Env) (w : World) : vcK P x_sDrawTurnOf k e w = vcK P (.seq (.reg [0, 2] (.c (.e (some 2) [] (.al 58 [(S []), (.int .i64 0), (.slice none 0 0)])) .nil)) t_sDrawTurnOf_1) k e w := rfl
def r_sDrawTurnOf : List XO := [(.lda 3 (.t 2))]
theorem c_sDrawTurnOf : convF Try.prog [145, 147, 148, 149, 158, 205, 206, 232, 234, 247, 248, 256, 261, 283, 284, 299, 300, 307] Try.f117 [([0, 2], []), ([2], [])] = some (x_sDrawTurnOf, r_sDrawTurnOf) := by kernel_rfl
def us_sDrawTurnOf := And.intro @u_sDrawTurnOf @u_sDrawTurnOf_1

theorem sl1Cur_row_okr (W : World) (b n : Nat) (m : Nat) (hm : 3 ≤ m ∧ m ≤ 8) (w : World) (hn : n ≤ 800000000) (hc : Cur W b n w) : CurFn 247 [cV b, .int .i64 m] W b n 2 w (fun r _ => ∃ x, r = S x ∧ IsRow x ∧ x.length = m) := by
  (refine callsV_of mix Try.func247 c_sl1Cur_row ?_; simp only [↓vsd, vsn, gW, qd, qv, ev, pick, argE, List.map_cons, List.map_nil, Option.map_some, Option.map_none, zipE, List.cons_append, List.nil_append, ne_eq, eq_self, forall_const, implies_true, if_true, if_false, reduceIte, List.cons.injEq, reduceCtorEq, Nat.reduceEqDiff, List.length_nil, List.length_cons, Nat.reduceAdd, Nat.reduceLT, List.set_cons_zero, List.set_cons_succ, ↓us_sl1Cur_row, r_sl1Cur_row])
  refine m_call (sl1Fact_ok m (by omega) _) ?_
  rintro _ w1 hx1 rfl
  simp only [↓vsd, vsn, gW, qd, qv, ev, pick, argE, List.map_cons, List.map_nil, Option.map_some, Option.map_none, zipE, List.cons_append, List.nil_append, ne_eq, eq_self, forall_const, implies_true, if_true, if_false, reduceIte, List.cons.injEq, reduceCtorEq, Nat.reduceEqDiff, List.length_nil, List.length_cons, Nat.reduceAdd, Nat.reduceLT, List.set_cons_zero, List.set_cons_succ, ↓us_sl1Cur_row, r_sl1Cur_row]
  have hf := factL_le m (by omega)
  refine m_callw (.inl rfl) (sl1Cur_pick_ok W b n (factL m : Nat) (by omega) w1 (by omega) (hc.ext hx1)) ?_
  rintro _ w2 ⟨hc2, hg2, x, rfl, hx⟩
  simp only [↓vsd, vsn, gW, qd, qv, ev, pick, argE, List.map_cons, List.map_nil, Option.map_some, Option.map_none, zipE, List.cons_append, List.nil_append, ne_eq, eq_self, forall_const, implies_true, if_true, if_false, reduceIte, List.cons.injEq, reduceCtorEq, Nat.reduceEqDiff, List.length_nil, List.length_cons, Nat.reduceAdd, Nat.reduceLT, List.set_cons_zero, List.set_cons_succ, ↓us_sl1Cur_row, r_sl1Cur_row]
  refine m_call (sRowOf_ok m x (by omega) (by omega) _) ?_
  rintro _ w3 hx3 rfl
  simp only [↓vsd, vsn, gW, qd, qv, ev, pick, argE, List.map_cons, List.map_nil, Option.map_some, Option.map_none, zipE, List.cons_append, List.nil_append, ne_eq, eq_self, forall_const, implies_true, if_true, if_false, reduceIte, List.cons.injEq, reduceCtorEq, Nat.reduceEqDiff, List.length_nil, List.length_cons, Nat.reduceAdd, Nat.reduceLT, List.set_cons_zero, List.set_cons_succ, ↓us_sl1Cur_row, r_sl1Cur_row]
  exact ⟨hc2.ext hx3, grown_trans (grown_trans (grown_ext _ hx1) hg2) (grown_ext _ hx3), _, rfl, rowGo_row m x hm (by omega), rowGo_len _ _ _⟩
theorem sDrawGoodRow_ok (v : Value) (code : List UInt8) (hl : code.length ≤ 1048576) (w : World) (h : Sq fU 1 w v code) : Fn 246 [v] w (fun r _ => ∃ x, r = S x ∧ x.length ≤ 10) := by
  (refine callsV_of mix Try.func246 c_sDrawGoodRow ?_; simp only [↓vsd, vsn, gW, qd, qv, ev, pick, argE, List.map_cons, List.map_nil, Option.map_some, Option.map_none, zipE, List.cons_append, List.nil_append, ne_eq, eq_self, forall_const, implies_true, if_true, if_false, reduceIte, List.cons.injEq, reduceCtorEq, Nat.reduceEqDiff, List.length_nil, List.length_cons, Nat.reduceAdd, Nat.reduceLT, List.set_cons_zero, List.set_cons_succ, ↓us_sDrawGoodRow, r_sDrawGoodRow])
  simp only [↓vsd, vsn, gW, qd, qv, ev, pick, argE, List.map_cons, List.map_nil, Option.map_some, Option.map_none, zipE, List.cons_append, List.nil_append, ne_eq, eq_self, forall_const, implies_true, if_true, if_false, reduceIte, List.cons.injEq, reduceCtorEq, Nat.reduceEqDiff, List.length_nil, List.length_cons, Nat.reduceAdd, Nat.reduceLT, List.set_cons_zero, List.set_cons_succ, ↓us_sDrawGoodRow, r_sDrawGoodRow, h.facts]
  refine m_al ?_
  rintro b w1 hb hblk hx1 hs1
  have hc := Cur.new h hl hb hblk hx1
  simp only [↓vsd, vsn, gW, qd, qv, ev, pick, argE, List.map_cons, List.map_nil, Option.map_some, Option.map_none, zipE, List.cons_append, List.nil_append, ne_eq, eq_self, forall_const, implies_true, if_true, if_false, reduceIte, List.cons.injEq, reduceCtorEq, Nat.reduceEqDiff, List.length_nil, List.length_cons, Nat.reduceAdd, Nat.reduceLT, List.set_cons_zero, List.set_cons_succ, ↓us_sDrawGoodRow, r_sDrawGoodRow]
  refine m_callw (.inl rfl) (sl1Cur_one_ok w b _ 4 (by omega) w1 (by omega) hc) ?_
  rintro _ w2 ⟨hc2, hg2, y, rfl⟩
  have hlt := hc2.lt
  cases y
  · simp only [↓vsd, vsn, gW, qd, qv, ev, pick, argE, List.map_cons, List.map_nil, Option.map_some, Option.map_none, zipE, List.cons_append, List.nil_append, ne_eq, eq_self, forall_const, implies_true, if_true, if_false, reduceIte, List.cons.injEq, reduceCtorEq, Nat.reduceEqDiff, List.length_nil, List.length_cons, Nat.reduceAdd, Nat.reduceLT, List.set_cons_zero, List.set_cons_succ, ↓us_sDrawGoodRow, r_sDrawGoodRow]
    refine m_callw (.inl rfl) (sl1Cur_anyRow_ok w b _ w2 (by omega) hc2) ?_
    rintro _ w3 ⟨hc3, hg3, x, rfl, hx⟩
    simp only [↓vsd, vsn, gW, qd, qv, ev, pick, argE, List.map_cons, List.map_nil, Option.map_some, Option.map_none, zipE, List.cons_append, List.nil_append, ne_eq, eq_self, forall_const, implies_true, if_true, if_false, reduceIte, List.cons.injEq, reduceCtorEq, Nat.reduceEqDiff, List.length_nil, List.length_cons, Nat.reduceAdd, Nat.reduceLT, List.set_cons_zero, List.set_cons_succ, ↓us_sDrawGoodRow, r_sDrawGoodRow]
    exact ⟨hc3.base, _, rfl, hx⟩
  · simp only [↓vsd, vsn, gW, qd, qv, ev, pick, argE, List.map_cons, List.map_nil, Option.map_some, Option.map_none, zipE, List.cons_append, List.nil_append, ne_eq, eq_self, forall_const, implies_true, if_true, if_false, reduceIte, List.cons.injEq, reduceCtorEq, Nat.reduceEqDiff, List.length_nil, List.length_cons, Nat.reduceAdd, Nat.reduceLT, List.set_cons_zero, List.set_cons_succ, ↓us_sDrawGoodRow, r_sDrawGoodRow]
    refine m_bsl (fun p hp => by simp only [List.mem_cons, List.not_mem_nil, or_false] at hp; rcases hp with rfl | rfl | rfl | rfl | rfl | rfl | rfl | rfl | rfl <;> rfl) ?_
    rintro b3 w3 hb3 hblk3 hx3 hs3
    simp only [↓vsd, vsn, gW, qd, qv, ev, pick, argE, List.map_cons, List.map_nil, Option.map_some, Option.map_none, zipE, List.cons_append, List.nil_append, ne_eq, eq_self, forall_const, implies_true, if_true, if_false, reduceIte, List.cons.injEq, reduceCtorEq, Nat.reduceEqDiff, List.length_nil, List.length_cons, Nat.reduceAdd, Nat.reduceLT, List.set_cons_zero, List.set_cons_succ, ↓us_sDrawGoodRow, r_sDrawGoodRow]
    refine m_callw (.inl rfl) (sl1Cur_of_ok w b _ _ [[], [49, 50], [49, 50, 51], [49, 50, 51, 52], [49, 49, 50, 51], [48, 49, 50, 51], [49, 50, 51, 52, 53, 54, 55, 56], [49, 50, 51, 52, 53, 54, 55, 56, 57], [49, 50, 52]] w3 (by omega) (by decide) (hc2.ext hx3) (Sq.litC _ _ fS_len hblk3 rfl rfl (by omega))) ?_
    rintro _ w4 ⟨hc4, hg4, x, rfl, hx⟩
    simp only [↓vsd, vsn, gW, qd, qv, ev, pick, argE, List.map_cons, List.map_nil, Option.map_some, Option.map_none, zipE, List.cons_append, List.nil_append, ne_eq, eq_self, forall_const, implies_true, if_true, if_false, reduceIte, List.cons.injEq, reduceCtorEq, Nat.reduceEqDiff, List.length_nil, List.length_cons, Nat.reduceAdd, Nat.reduceLT, List.set_cons_zero, List.set_cons_succ, ↓us_sDrawGoodRow, r_sDrawGoodRow]
    refine ⟨hc4.base, _, rfl, ?_⟩
    simp only [List.mem_cons, List.not_mem_nil, or_false] at hx
    rcases hx with rfl | rfl | rfl | rfl | rfl | rfl | rfl | rfl | rfl <;> decide
theorem sDrawCourseOf_ok (v : Value) (code : List UInt8) (hl : code.length ≤ 1048576) (w : World) (h : Sq fU 1 w v code) : Fn 111 [v] w (fun r _ => ∃ x, r = S x ∧ x.length ≤ 10) := by
  (refine callsV_of mix Try.func111 c_sDrawCourseOf ?_; simp only [↓vsd, vsn, gW, qd, qv, ev, pick, argE, List.map_cons, List.map_nil, Option.map_some, Option.map_none, zipE, List.cons_append, List.nil_append, ne_eq, eq_self, forall_const, implies_true, if_true, if_false, reduceIte, List.cons.injEq, reduceCtorEq, Nat.reduceEqDiff, List.length_nil, List.length_cons, Nat.reduceAdd, Nat.reduceLT, List.set_cons_zero, List.set_cons_succ, ↓us_sDrawCourseOf, r_sDrawCourseOf])
  refine m_call (sDrawGoodRow_ok v code hl _ h) ?_
  rintro _ w1 hx1 ⟨x, rfl, hx⟩
  simp only [↓vsd, vsn, gW, qd, qv, ev, pick, argE, List.map_cons, List.map_nil, Option.map_some, Option.map_none, zipE, List.cons_append, List.nil_append, ne_eq, eq_self, forall_const, implies_true, if_true, if_false, reduceIte, List.cons.injEq, reduceCtorEq, Nat.reduceEqDiff, List.length_nil, List.length_cons, Nat.reduceAdd, Nat.reduceLT, List.set_cons_zero, List.set_cons_succ, ↓us_sDrawCourseOf, r_sDrawCourseOf]
  exact ⟨hx1, _, rfl, hx⟩
theorem sDrawRowOfCourse_ok (v : Value) (code : List UInt8) (hl : code.length ≤ 1048576) (w : World) (h : Sq fU 1 w v code) : Fn 114 [v] w (fun r _ => ∃ (f : Int) (x : List UInt8), r = .tuple ⟨[.int .i64 f, S x]⟩ ∧ x.length ≤ 100) := by
  (refine callsV_of mix Try.func114 c_sDrawRowOfCourse ?_; simp only [↓vsd, vsn, gW, qd, qv, ev, pick, argE, List.map_cons, List.map_nil, Option.map_some, Option.map_none, zipE, List.cons_append, List.nil_append, ne_eq, eq_self, forall_const, implies_true, if_true, if_false, reduceIte, List.cons.injEq, reduceCtorEq, Nat.reduceEqDiff, List.length_nil, List.length_cons, Nat.reduceAdd, Nat.reduceLT, List.set_cons_zero, List.set_cons_succ, ↓us_sDrawRowOfCourse, r_sDrawRowOfCourse])
  simp only [↓vsd, vsn, gW, qd, qv, ev, pick, argE, List.map_cons, List.map_nil, Option.map_some, Option.map_none, zipE, List.cons_append, List.nil_append, ne_eq, eq_self, forall_const, implies_true, if_true, if_false, reduceIte, List.cons.injEq, reduceCtorEq, Nat.reduceEqDiff, List.length_nil, List.length_cons, Nat.reduceAdd, Nat.reduceLT, List.set_cons_zero, List.set_cons_succ, ↓us_sDrawRowOfCourse, r_sDrawRowOfCourse, h.facts]
  refine m_al ?_
  rintro b w1 hb hblk hx1 hs1
  have hc := Cur.new h hl hb hblk hx1
  simp only [↓vsd, vsn, gW, qd, qv, ev, pick, argE, List.map_cons, List.map_nil, Option.map_some, Option.map_none, zipE, List.cons_append, List.nil_append, ne_eq, eq_self, forall_const, implies_true, if_true, if_false, reduceIte, List.cons.injEq, reduceCtorEq, Nat.reduceEqDiff, List.length_nil, List.length_cons, Nat.reduceAdd, Nat.reduceLT, List.set_cons_zero, List.set_cons_succ, ↓us_sDrawRowOfCourse, r_sDrawRowOfCourse]
  refine m_bsl (fun p hp => by simp only [List.mem_cons, List.not_mem_nil, or_false] at hp; rcases hp with rfl | rfl | rfl | rfl | rfl <;> rfl) ?_
  rintro b2 w2 hb2 hblk2 hx2 hs2
  simp only [↓vsd, vsn, gW, qd, qv, ev, pick, argE, List.map_cons, List.map_nil, Option.map_some, Option.map_none, zipE, List.cons_append, List.nil_append, ne_eq, eq_self, forall_const, implies_true, if_true, if_false, reduceIte, List.cons.injEq, reduceCtorEq, Nat.reduceEqDiff, List.length_nil, List.length_cons, Nat.reduceAdd, Nat.reduceLT, List.set_cons_zero, List.set_cons_succ, ↓us_sDrawRowOfCourse, r_sDrawRowOfCourse]
  have hlt := hc.lt
  refine m_callw (.inl rfl) (sl1Cur_among_ok w b _ _ [4, 5, 6, 7, 8] w2 (by omega) (by decide) (hc.ext hx2) (Sq.litC _ _ fI_len hblk2 rfl rfl (by omega))) ?_
  rintro _ w3 ⟨hc3, hg3, m', rfl, hm'⟩
  obtain ⟨m, rfl⟩ : ∃ s : Nat, m' = s := ⟨m'.toNat, by simp only [List.mem_cons, List.not_mem_nil, or_false] at hm'; omega⟩
  have hm : 4 ≤ m ∧ m ≤ 8 := by simp only [List.mem_cons, List.not_mem_nil, or_false] at hm'; omega
  simp only [↓vsd, vsn, gW, qd, qv, ev, pick, argE, List.map_cons, List.map_nil, Option.map_some, Option.map_none, zipE, List.cons_append, List.nil_append, ne_eq, eq_self, forall_const, implies_true, if_true, if_false, reduceIte, List.cons.injEq, reduceCtorEq, Nat.reduceEqDiff, List.length_nil, List.length_cons, Nat.reduceAdd, Nat.reduceLT, List.set_cons_zero, List.set_cons_succ, ↓us_sDrawRowOfCourse, r_sDrawRowOfCourse]
  refine m_callw (.inl rfl) (sl1Cur_row_okr w b _ m (by omega) w3 (by omega) hc3) ?_
  rintro _ w4 ⟨hc4, hg4, r, rfl, hr, hrl⟩
  simp only [↓vsd, vsn, gW, qd, qv, ev, pick, argE, List.map_cons, List.map_nil, Option.map_some, Option.map_none, zipE, List.cons_append, List.nil_append, ne_eq, eq_self, forall_const, implies_true, if_true, if_false, reduceIte, List.cons.injEq, reduceCtorEq, Nat.reduceEqDiff, List.length_nil, List.length_cons, Nat.reduceAdd, Nat.reduceLT, List.set_cons_zero, List.set_cons_succ, ↓us_sDrawRowOfCourse, r_sDrawRowOfCourse]
  refine m_call (sl1At_ok r 1 (by omega) (by have := hr.low (i := 0) (by omega); exact Nat.le_trans (by decide) this) (by omega) _) ?_
  rintro _ w5 hx5 rfl
  simp only [↓vsd, vsn, gW, qd, qv, ev, pick, argE, List.map_cons, List.map_nil, Option.map_some, Option.map_none, zipE, List.cons_append, List.nil_append, ne_eq, eq_self, forall_const, implies_true, if_true, if_false, reduceIte, List.cons.injEq, reduceCtorEq, Nat.reduceEqDiff, List.length_nil, List.length_cons, Nat.reduceAdd, Nat.reduceLT, List.set_cons_zero, List.set_cons_succ, ↓us_sDrawRowOfCourse, r_sDrawRowOfCourse]
  refine m_call (sl15Course_ok r (by omega) (by omega) _) ?_
  rintro _ w6 hx6 rfl
  have hcl : (courseL r).length ≤ 8 := by rw [courseL, List.length_map, cou_len _ (by omega)]; omega
  simp only [↓vsd, vsn, gW, qd, qv, ev, pick, argE, List.map_cons, List.map_nil, Option.map_some, Option.map_none, zipE, List.cons_append, List.nil_append, ne_eq, eq_self, forall_const, implies_true, if_true, if_false, reduceIte, List.cons.injEq, reduceCtorEq, Nat.reduceEqDiff, List.length_nil, List.length_cons, Nat.reduceAdd, Nat.reduceLT, List.set_cons_zero, List.set_cons_succ, ↓us_sDrawRowOfCourse, r_sDrawRowOfCourse]
  refine m_callw (.inl rfl) (sl1Cur_pick_ok w b _ 8 (by omega) w6 (by omega) ((hc4.ext hx5).ext hx6)) ?_
  rintro _ w7 ⟨hc7, hg7, q, rfl, hq⟩
  simp only [↓vsd, vsn, gW, qd, qv, ev, pick, argE, List.map_cons, List.map_nil, Option.map_some, Option.map_none, zipE, List.cons_append, List.nil_append, ne_eq, eq_self, forall_const, implies_true, if_true, if_false, reduceIte, List.cons.injEq, reduceCtorEq, Nat.reduceEqDiff, List.length_nil, List.length_cons, Nat.reduceAdd, Nat.reduceLT, List.set_cons_zero, List.set_cons_succ, ↓us_sDrawRowOfCourse, r_sDrawRowOfCourse]
  refine ⟨fun h0 => ?_, fun h0 => ⟨fun h1 => ?_, fun h1 => ?_⟩⟩
  · refine m_callw (.inl rfl) (sl1Cur_pick_ok w b _ 10 (by omega) w7 (by omega) hc7) ?_
    rintro _ w8 ⟨hc8, hg8, f, rfl, hf⟩
    simp only [↓vsd, vsn, gW, qd, qv, ev, pick, argE, List.map_cons, List.map_nil, Option.map_some, Option.map_none, zipE, List.cons_append, List.nil_append, ne_eq, eq_self, forall_const, implies_true, if_true, if_false, reduceIte, List.cons.injEq, reduceCtorEq, Nat.reduceEqDiff, List.length_nil, List.length_cons, Nat.reduceAdd, Nat.reduceLT, List.set_cons_zero, List.set_cons_succ, ↓us_sDrawRowOfCourse, r_sDrawRowOfCourse]
    exact ⟨hc8.base, _, _, rfl, by omega⟩
  · refine m_callw (.inl rfl) (sl1Cur_spoilt_ok w b _ (courseL r) [49, 50, 57, 48] w7 (by omega) (by omega) (by decide) hc7) ?_
    rintro _ w8 ⟨hc8, hg8, y, rfl, hy⟩
    simp only [↓vsd, vsn, gW, qd, qv, ev, pick, argE, List.map_cons, List.map_nil, Option.map_some, Option.map_none, zipE, List.cons_append, List.nil_append, ne_eq, eq_self, forall_const, implies_true, if_true, if_false, reduceIte, List.cons.injEq, reduceCtorEq, Nat.reduceEqDiff, List.length_nil, List.length_cons, Nat.reduceAdd, Nat.reduceLT, List.set_cons_zero, List.set_cons_succ, ↓us_sDrawRowOfCourse, r_sDrawRowOfCourse]
    exact ⟨hc8.base, _, _, rfl, by omega⟩
  · exact ⟨hc7.base, _, _, rfl, by omega⟩
theorem sl1Cur_regular_ok (W : World) (b n : Nat) (w : World) (hn : n ≤ 600000000) (hc : Cur W b n w) : CurFn 299 [cV b] W b n 4000 w (fun r w' => MethV w.heap.size r w') := by
  (refine callsV_of mix Try.func299 c_sl1Cur_regular ?_; simp only [↓vsd, vsn, gW, qd, qv, ev, pick, argE, List.map_cons, List.map_nil, Option.map_some, Option.map_none, zipE, List.cons_append, List.nil_append, ne_eq, eq_self, forall_const, implies_true, if_true, if_false, reduceIte, List.cons.injEq, reduceCtorEq, Nat.reduceEqDiff, List.length_nil, List.length_cons, Nat.reduceAdd, Nat.reduceLT, List.set_cons_zero, List.set_cons_succ, ↓us_sl1Cur_regular, r_sl1Cur_regular])
  refine m_al ?_
  rintro b1 w1 hb1 hblk1 hx1 hs1
  have hr1 : Blk w1 b1 (fM [] 0 (.slice none 0 0)) 58 := hblk1
  have hlt := hc.lt
  simp only [↓vsd, vsn, gW, qd, qv, ev, pick, argE, List.map_cons, List.map_nil, Option.map_some, Option.map_none, zipE, List.cons_append, List.nil_append, ne_eq, eq_self, forall_const, implies_true, if_true, if_false, reduceIte, List.cons.injEq, reduceCtorEq, Nat.reduceEqDiff, List.length_nil, List.length_cons, Nat.reduceAdd, Nat.reduceLT, List.set_cons_zero, List.set_cons_succ, ↓us_sl1Cur_regular, r_sl1Cur_regular]
  refine m_callw (.inl rfl) (sl1Cur_method_ok W b _ _ (by omega) (hc.ext hx1)) ?_
  rintro _ w2 ⟨hc2, hg2, nm, st, x, cs, rfl, ho2, hm, hst6⟩
  have hr2 := hr1.same (hg2.block b1 hr1.lt (fun e => by have := Option.some.inj e; omega))
  simp only [↓vsd, vsn, gW, qd, qv, ev, pick, argE, List.map_cons, List.map_nil, Option.map_some, Option.map_none, zipE, List.cons_append, List.nil_append, ne_eq, eq_self, forall_const, implies_true, if_true, if_false, reduceIte, List.cons.injEq, reduceCtorEq, Nat.reduceEqDiff, List.length_nil, List.length_cons, Nat.reduceAdd, Nat.reduceLT, List.set_cons_zero, List.set_cons_succ, ↓us_sl1Cur_regular, r_sl1Cur_regular]
  refine m_al ?_
  rintro bm w3 hbm hblk3 hx3 hs3
  simp only [↓vsd, vsn, gW, qd, qv, ev, pick, argE, List.map_cons, List.map_nil, Option.map_some, Option.map_none, zipE, List.cons_append, List.nil_append, ne_eq, eq_self, forall_const, implies_true, if_true, if_false, reduceIte, List.cons.injEq, reduceCtorEq, Nat.reduceEqDiff, List.length_nil, List.length_cons, Nat.reduceAdd, Nat.reduceLT, List.set_cons_zero, List.set_cons_succ, ↓us_sl1Cur_regular, r_sl1Cur_regular]
  refine m_st hblk3 rfl (Nat.le_refl 3) (fM_one nm st _ ho2.sq.one') ?_
  rintro w4 hblk4 hu4
  have hM4 : Blk w4 bm (fM nm st x) 58 := hblk4
  have h12 := hg2.size
  have ms : MT W b (n + 60) w b1 bm nm st x x cs w4 := ⟨(hc2.ext hx3).keep hu4.grown (fun c hc => by have := Option.some.inj hc; omega), ⟨_, hu4.blk (hr2.ext hx3) (by have := hr2.lt; omega), rfl⟩, hM4, ((ho2.ext hx3).upd hu4 (ho2.away (by omega))).mono (by omega), ho2.away (by omega),
    grown_new (grown_trans (grown_trans (grown_ext _ hx1) hg2) (grown_ext _ hx3)) hu4.grown (fun c hc => by have := Option.some.inj hc; have := hx1.size; omega), by have := hr2.lt; omega⟩
  simp only [↓vsd, vsn, gW, qd, qv, ev, pick, argE, List.map_cons, List.map_nil, Option.map_some, Option.map_none, zipE, List.cons_append, List.nil_append, ne_eq, eq_self, forall_const, implies_true, if_true, if_false, reduceIte, List.cons.injEq, reduceCtorEq, Nat.reduceEqDiff, List.length_nil, List.length_cons, Nat.reduceAdd, Nat.reduceLT, List.set_cons_zero, List.set_cons_succ, ↓us_sl1Cur_regular, r_sl1Cur_regular]
  refine m_upto 30 (fun i vs w' => ∃ nm st x cs, vs = [.int .i64 i] ∧ MT W b (n + 70 + 120 * i) w b1 bm nm st x x cs w' ∧ IsMethod nm st cs ∧ st ≤ 6) ⟨nm, st, x, cs, rfl, ms.mono (by omega), hm, hst6⟩ ?_
  clear ms hM4 hm hst6 ho2
  rintro i vs w5 hi ⟨nm, st, x, cs, rfl, ms, hm, hst6⟩
  by_cases hlt : i < 30
  · have hltI : (i : Int) < 30 := by omega
    have hltJ : ¬ 30 ≤ (i : Int) := by omega
    obtain ⟨s, rfl⟩ : ∃ s : Nat, st = s := ⟨st.toNat, by have := hm.2.1; omega⟩
    by_cases hs4 : (s : Int) < 4
    · have hs4J : ¬ 4 ≤ (s : Int) := by omega
      simp only [↓vsd, vsn, gW, qd, qv, ev, pick, argE, List.map_cons, List.map_nil, Option.map_some, Option.map_none, zipE, List.cons_append, List.nil_append, ne_eq, eq_self, forall_const, implies_true, if_true, if_false, reduceIte, List.cons.injEq, reduceCtorEq, Nat.reduceEqDiff, List.length_nil, List.length_cons, Nat.reduceAdd, Nat.reduceLT, List.set_cons_zero, List.set_cons_succ, ↓us_sl1Cur_regular, r_sl1Cur_regular, hltI, hltJ, ms.blk.facts, fMg, hs4, hs4J]
      refine m_callw (.inl rfl) (sl1Cur_method_ok W b _ _ (by omega) ms.cur) ?_
      rintro _ wa ⟨hca, hga, nm', st', x', cs', rfl, hoa, hm', hst6'⟩
      have hsz := ms.blk.lt
      have hlo := ms.lo
      have ms := ms.draw hca hga
      simp only [↓vsd, vsn, gW, qd, qv, ev, pick, argE, List.map_cons, List.map_nil, Option.map_some, Option.map_none, zipE, List.cons_append, List.nil_append, ne_eq, eq_self, forall_const, implies_true, if_true, if_false, reduceIte, List.cons.injEq, reduceCtorEq, Nat.reduceEqDiff, List.length_nil, List.length_cons, Nat.reduceAdd, Nat.reduceLT, List.set_cons_zero, List.set_cons_succ, ↓us_sl1Cur_regular, r_sl1Cur_regular]
      refine m_st ms.blk rfl (Nat.le_refl 3) (fM_one nm' st' _ hoa.sq.one') ?_
      rintro wb hbb hub
      have hbb' : Blk wb bm (fM nm' st' x') 58 := hbb
      have ms := ((ms.new (hoa.mono (by omega)) (hoa.away' (by omega))).put hub hbb').mono (M := n + 70 + 120 * (i + 1)) (by omega)
      simp only [↓vsd, vsn, gW, qd, qv, ev, pick, argE, List.map_cons, List.map_nil, Option.map_some, Option.map_none, zipE, List.cons_append, List.nil_append, ne_eq, eq_self, forall_const, implies_true, if_true, if_false, reduceIte, List.cons.injEq, reduceCtorEq, Nat.reduceEqDiff, List.length_nil, List.length_cons, Nat.reduceAdd, Nat.reduceLT, List.set_cons_zero, List.set_cons_succ, ↓us_sl1Cur_regular, r_sl1Cur_regular]
      exact ⟨inR_i64 (by omega), UpTo.next hlt ⟨nm', st', x', cs', rfl, ms, hm', hst6'⟩⟩
    · have hs4J : 4 ≤ (s : Int) := by omega
      simp only [↓vsd, vsn, gW, qd, qv, ev, pick, argE, List.map_cons, List.map_nil, Option.map_some, Option.map_none, zipE, List.cons_append, List.nil_append, ne_eq, eq_self, forall_const, implies_true, if_true, if_false, reduceIte, List.cons.injEq, reduceCtorEq, Nat.reduceEqDiff, List.length_nil, List.length_cons, Nat.reduceAdd, Nat.reduceLT, List.set_cons_zero, List.set_cons_succ, ↓us_sl1Cur_regular, r_sl1Cur_regular, hltI, hltJ, ms.blk.facts, fMg, hs4, hs4J]
      refine m_callw (.inl rfl) (sl1Cur_one_ok W b _ 9 (by omega) _ (by omega) ms.cur) ?_
      rintro _ w6 ⟨hc6, hg6, y6, rfl⟩
      have ms := ms.draw hc6 hg6
      cases y6
      · simp only [↓vsd, vsn, gW, qd, qv, ev, pick, argE, List.map_cons, List.map_nil, Option.map_some, Option.map_none, zipE, List.cons_append, List.nil_append, ne_eq, eq_self, forall_const, implies_true, if_true, if_false, reduceIte, List.cons.injEq, reduceCtorEq, Nat.reduceEqDiff, List.length_nil, List.length_cons, Nat.reduceAdd, Nat.reduceLT, List.set_cons_zero, List.set_cons_succ, ↓us_sl1Cur_regular, r_sl1Cur_regular, ms.blk.facts, fMg]
        refine m_call (sl15Turn_ok nm s x cs ⟨hm, hs4J⟩ _ ms.own.sq) ?_
        rintro _ w7 hx7 rfl
        have ms := ms.ext hx7
        simp only [↓vsd, vsn, gW, qd, qv, ev, pick, argE, List.map_cons, List.map_nil, Option.map_some, Option.map_none, zipE, List.cons_append, List.nil_append, ne_eq, eq_self, forall_const, implies_true, if_true, if_false, reduceIte, List.cons.injEq, reduceCtorEq, Nat.reduceEqDiff, List.length_nil, List.length_cons, Nat.reduceAdd, Nat.reduceLT, List.set_cons_zero, List.set_cons_succ, ↓us_sl1Cur_regular, r_sl1Cur_regular, ms.blk.facts, fMg]
        refine ⟨fun h0 => ?_, fun h0 => ?_⟩
        · skip
          refine m_callw (.inl rfl) (sl1Cur_method_ok W b _ _ (by omega) ms.cur) ?_
          rintro _ wa ⟨hca, hga, nm', st', x', cs', rfl, hoa, hm', hst6'⟩
          have hsz := ms.blk.lt
          have hlo := ms.lo
          have ms := ms.draw hca hga
          simp only [↓vsd, vsn, gW, qd, qv, ev, pick, argE, List.map_cons, List.map_nil, Option.map_some, Option.map_none, zipE, List.cons_append, List.nil_append, ne_eq, eq_self, forall_const, implies_true, if_true, if_false, reduceIte, List.cons.injEq, reduceCtorEq, Nat.reduceEqDiff, List.length_nil, List.length_cons, Nat.reduceAdd, Nat.reduceLT, List.set_cons_zero, List.set_cons_succ, ↓us_sl1Cur_regular, r_sl1Cur_regular]
          refine m_st ms.blk rfl (Nat.le_refl 3) (fM_one nm' st' _ hoa.sq.one') ?_
          rintro wb hbb hub
          have hbb' : Blk wb bm (fM nm' st' x') 58 := hbb
          have ms := ((ms.new (hoa.mono (by omega)) (hoa.away' (by omega))).put hub hbb').mono (M := n + 70 + 120 * (i + 1)) (by omega)
          simp only [↓vsd, vsn, gW, qd, qv, ev, pick, argE, List.map_cons, List.map_nil, Option.map_some, Option.map_none, zipE, List.cons_append, List.nil_append, ne_eq, eq_self, forall_const, implies_true, if_true, if_false, reduceIte, List.cons.injEq, reduceCtorEq, Nat.reduceEqDiff, List.length_nil, List.length_cons, Nat.reduceAdd, Nat.reduceLT, List.set_cons_zero, List.set_cons_succ, ↓us_sl1Cur_regular, r_sl1Cur_regular]
          exact ⟨inR_i64 (by omega), UpTo.next hlt ⟨nm', st', x', cs', rfl, ms, hm', hst6'⟩⟩
        · skip
          have ms := ms.mono (M := n + 4000) (by omega)
          try simp only [↓vsd, vsn, gW, qd, qv, ev, pick, argE, List.map_cons, List.map_nil, Option.map_some, Option.map_none, zipE, List.cons_append, List.nil_append, ne_eq, eq_self, forall_const, implies_true, if_true, if_false, reduceIte, List.cons.injEq, reduceCtorEq, Nat.reduceEqDiff, List.length_nil, List.length_cons, Nat.reduceAdd, Nat.reduceLT, List.set_cons_zero, List.set_cons_succ, ↓us_sl1Cur_regular, r_sl1Cur_regular, ms.blk.facts, fMg]
          obtain ⟨rc, hrc, hrl⟩ := ms.res
          obtain ⟨a1, a2, a3, rfl⟩ : ∃ a b c, rc = [a, b, c] := by match rc, hrl with | [a, b, c], _ => exact ⟨a, b, c, rfl⟩
          refine m_st hrc rfl (Nat.le_refl 3) (fM_one _ _ _ ms.own.sq.one') ?_
          rintro wr hbr hur
          have hbr' : Blk wr b1 (fM _ _ _) 58 := hbr
          have hlo := ms.lo
          simp only [↓vsd, vsn, gW, qd, qv, ev, pick, argE, List.map_cons, List.map_nil, Option.map_some, Option.map_none, zipE, List.cons_append, List.nil_append, ne_eq, eq_self, forall_const, implies_true, if_true, if_false, reduceIte, List.cons.injEq, reduceCtorEq, Nat.reduceEqDiff, List.length_nil, List.length_cons, Nat.reduceAdd, Nat.reduceLT, List.set_cons_zero, List.set_cons_succ, ↓us_sl1Cur_regular, r_sl1Cur_regular, hbr'.facts, fMg]
          exact ⟨ms.cur.keep hur.grown (fun c hc => by have := Option.some.inj hc; omega), grown_new ms.gr hur.grown (fun c hc => by have := Option.some.inj hc; omega), _, _, _, _, rfl, (ms.own.upd hur (ms.own.away' (by omega))).mono (by omega), hm, hst6⟩
      · simp only [↓vsd, vsn, gW, qd, qv, ev, pick, argE, List.map_cons, List.map_nil, Option.map_some, Option.map_none, zipE, List.cons_append, List.nil_append, ne_eq, eq_self, forall_const, implies_true, if_true, if_false, reduceIte, List.cons.injEq, reduceCtorEq, Nat.reduceEqDiff, List.length_nil, List.length_cons, Nat.reduceAdd, Nat.reduceLT, List.set_cons_zero, List.set_cons_succ, ↓us_sl1Cur_regular, r_sl1Cur_regular, ms.blk.facts, fMg]
        have ms := ms.mono (M := n + 4000) (by omega)
        try simp only [↓vsd, vsn, gW, qd, qv, ev, pick, argE, List.map_cons, List.map_nil, Option.map_some, Option.map_none, zipE, List.cons_append, List.nil_append, ne_eq, eq_self, forall_const, implies_true, if_true, if_false, reduceIte, List.cons.injEq, reduceCtorEq, Nat.reduceEqDiff, List.length_nil, List.length_cons, Nat.reduceAdd, Nat.reduceLT, List.set_cons_zero, List.set_cons_succ, ↓us_sl1Cur_regular, r_sl1Cur_regular, ms.blk.facts, fMg]
        obtain ⟨rc, hrc, hrl⟩ := ms.res
        obtain ⟨a1, a2, a3, rfl⟩ : ∃ a b c, rc = [a, b, c] := by match rc, hrl with | [a, b, c], _ => exact ⟨a, b, c, rfl⟩
        refine m_st hrc rfl (Nat.le_refl 3) (fM_one _ _ _ ms.own.sq.one') ?_
        rintro wr hbr hur
        have hbr' : Blk wr b1 (fM _ _ _) 58 := hbr
        have hlo := ms.lo
        simp only [↓vsd, vsn, gW, qd, qv, ev, pick, argE, List.map_cons, List.map_nil, Option.map_some, Option.map_none, zipE, List.cons_append, List.nil_append, ne_eq, eq_self, forall_const, implies_true, if_true, if_false, reduceIte, List.cons.injEq, reduceCtorEq, Nat.reduceEqDiff, List.length_nil, List.length_cons, Nat.reduceAdd, Nat.reduceLT, List.set_cons_zero, List.set_cons_succ, ↓us_sl1Cur_regular, r_sl1Cur_regular, hbr'.facts, fMg]
        exact ⟨ms.cur.keep hur.grown (fun c hc => by have := Option.some.inj hc; omega), grown_new ms.gr hur.grown (fun c hc => by have := Option.some.inj hc; omega), _, _, _, _, rfl, (ms.own.upd hur (ms.own.away' (by omega))).mono (by omega), hm, hst6⟩
  · obtain rfl : i = 30 := by omega
    have hltI : ¬ ((30 : Nat) : Int) < 30 := by omega
    simp only [↓vsd, vsn, gW, qd, qv, ev, pick, argE, List.map_cons, List.map_nil, Option.map_some, Option.map_none, zipE, List.cons_append, List.nil_append, ne_eq, eq_self, forall_const, implies_true, if_true, if_false, reduceIte, List.cons.injEq, reduceCtorEq, Nat.reduceEqDiff, List.length_nil, List.length_cons, Nat.reduceAdd, Nat.reduceLT, List.set_cons_zero, List.set_cons_succ, ↓us_sl1Cur_regular, r_sl1Cur_regular, hltI, ms.blk.facts, fMg]
    have ms := ms.mono (M := n + 4000) (by omega)
    try simp only [↓vsd, vsn, gW, qd, qv, ev, pick, argE, List.map_cons, List.map_nil, Option.map_some, Option.map_none, zipE, List.cons_append, List.nil_append, ne_eq, eq_self, forall_const, implies_true, if_true, if_false, reduceIte, List.cons.injEq, reduceCtorEq, Nat.reduceEqDiff, List.length_nil, List.length_cons, Nat.reduceAdd, Nat.reduceLT, List.set_cons_zero, List.set_cons_succ, ↓us_sl1Cur_regular, r_sl1Cur_regular, ms.blk.facts, fMg]
    obtain ⟨rc, hrc, hrl⟩ := ms.res
    obtain ⟨a1, a2, a3, rfl⟩ : ∃ a b c, rc = [a, b, c] := by match rc, hrl with | [a, b, c], _ => exact ⟨a, b, c, rfl⟩
    refine m_st hrc rfl (Nat.le_refl 3) (fM_one _ _ _ ms.own.sq.one') ?_
    rintro wr hbr hur
    have hbr' : Blk wr b1 (fM _ _ _) 58 := hbr
    have hlo := ms.lo
    simp only [↓vsd, vsn, gW, qd, qv, ev, pick, argE, List.map_cons, List.map_nil, Option.map_some, Option.map_none, zipE, List.cons_append, List.nil_append, ne_eq, eq_self, forall_const, implies_true, if_true, if_false, reduceIte, List.cons.injEq, reduceCtorEq, Nat.reduceEqDiff, List.length_nil, List.length_cons, Nat.reduceAdd, Nat.reduceLT, List.set_cons_zero, List.set_cons_succ, ↓us_sl1Cur_regular, r_sl1Cur_regular, hbr'.facts, fMg]
    exact ⟨ms.cur.keep hur.grown (fun c hc => by have := Option.some.inj hc; omega), grown_new ms.gr hur.grown (fun c hc => by have := Option.some.inj hc; omega), _, _, _, _, rfl, (ms.own.upd hur (ms.own.away' (by omega))).mono (by omega), hm, hst6⟩
theorem sDrawIsRegular_ok (v : Value) (code : List UInt8) (hl : code.length ≤ 1048576) (w : World) (h : Sq fU 1 w v code) : Fn 252 [v] w (fun r w' => AnyM w.heap.size r w') := by
  (refine callsV_of mix Try.func252 c_sDrawIsRegular ?_; simp only [↓vsd, vsn, gW, qd, qv, ev, pick, argE, List.map_cons, List.map_nil, Option.map_some, Option.map_none, zipE, List.cons_append, List.nil_append, ne_eq, eq_self, forall_const, implies_true, if_true, if_false, reduceIte, List.cons.injEq, reduceCtorEq, Nat.reduceEqDiff, List.length_nil, List.length_cons, Nat.reduceAdd, Nat.reduceLT, List.set_cons_zero, List.set_cons_succ, ↓us_sDrawIsRegular, r_sDrawIsRegular])
  refine m_al ?_
  rintro b0 w0 hb0 hblk0 hx0 hs0
  have h0 := h.ext hx0
  simp only [↓vsd, vsn, gW, qd, qv, ev, pick, argE, List.map_cons, List.map_nil, Option.map_some, Option.map_none, zipE, List.cons_append, List.nil_append, ne_eq, eq_self, forall_const, implies_true, if_true, if_false, reduceIte, List.cons.injEq, reduceCtorEq, Nat.reduceEqDiff, List.length_nil, List.length_cons, Nat.reduceAdd, Nat.reduceLT, List.set_cons_zero, List.set_cons_succ, ↓us_sDrawIsRegular, r_sDrawIsRegular, h0.facts]
  refine m_al ?_
  rintro b w1 hb hblk hx1 hs1
  have hc := Cur.new h0 hl hb hblk hx1
  simp only [↓vsd, vsn, gW, qd, qv, ev, pick, argE, List.map_cons, List.map_nil, Option.map_some, Option.map_none, zipE, List.cons_append, List.nil_append, ne_eq, eq_self, forall_const, implies_true, if_true, if_false, reduceIte, List.cons.injEq, reduceCtorEq, Nat.reduceEqDiff, List.length_nil, List.length_cons, Nat.reduceAdd, Nat.reduceLT, List.set_cons_zero, List.set_cons_succ, ↓us_sDrawIsRegular, r_sDrawIsRegular]
  refine m_callw (.inl rfl) (sl1Cur_one_ok w0 b _ 6 (by omega) w1 (by omega) hc) ?_
  rintro _ w2 ⟨hc2, hg2, y, rfl⟩
  have hs2 : w.heap.size ≤ w2.heap.size := by have := hg2.size; omega
  have hb02 := (Blk.ext hblk0 hx1).same (hg2.block b0 (Blk.ext hblk0 hx1).lt (fun e => by have := Option.some.inj e; omega))
  cases y
  · simp only [↓vsd, vsn, gW, qd, qv, ev, pick, argE, List.map_cons, List.map_nil, Option.map_some, Option.map_none, zipE, List.cons_append, List.nil_append, ne_eq, eq_self, forall_const, implies_true, if_true, if_false, reduceIte, List.cons.injEq, reduceCtorEq, Nat.reduceEqDiff, List.length_nil, List.length_cons, Nat.reduceAdd, Nat.reduceLT, List.set_cons_zero, List.set_cons_succ, ↓us_sDrawIsRegular, r_sDrawIsRegular]
    refine m_callw (.inl rfl) (sl1Cur_regular_ok w0 b _ w2 (by omega) hc2) ?_
    rintro _ w3 ⟨hc3, hg3, nm, st, x, cs, rfl, ho, hm, hst⟩
    have hb03 := hb02.same (hg3.block b0 hb02.lt (fun e => by have := Option.some.inj e; omega))
    simp only [↓vsd, vsn, gW, qd, qv, ev, pick, argE, List.map_cons, List.map_nil, Option.map_some, Option.map_none, zipE, List.cons_append, List.nil_append, ne_eq, eq_self, forall_const, implies_true, if_true, if_false, reduceIte, List.cons.injEq, reduceCtorEq, Nat.reduceEqDiff, List.length_nil, List.length_cons, Nat.reduceAdd, Nat.reduceLT, List.set_cons_zero, List.set_cons_succ, ↓us_sDrawIsRegular, r_sDrawIsRegular]
    refine m_st hb03 rfl (Nat.le_refl 3) (fM_one nm st _ ho.sq.one') ?_
    rintro w4 hblk4 hu4
    have hb4 : Blk w4 b0 (fM nm st x) 58 := hblk4
    simp only [↓vsd, vsn, gW, qd, qv, ev, pick, argE, List.map_cons, List.map_nil, Option.map_some, Option.map_none, zipE, List.cons_append, List.nil_append, ne_eq, eq_self, forall_const, implies_true, if_true, if_false, reduceIte, List.cons.injEq, reduceCtorEq, Nat.reduceEqDiff, List.length_nil, List.length_cons, Nat.reduceAdd, Nat.reduceLT, List.set_cons_zero, List.set_cons_succ, ↓us_sDrawIsRegular, r_sDrawIsRegular, hb4.facts, fMg]
    exact ⟨hu4.below (hx0.trans hc3.base) (by omega), nm, st, x, cs, rfl, (ho.upd hu4 (ho.away' (by have := hb02.lt; omega))).mono hs2, by have := hm.1.2; omega, by have := hm.2.1; omega, by have := hm.2.2.1; omega, fun c hc => by have := (hm.2.2.2 c hc).len; have := hm.2.1; omega⟩
  · simp only [↓vsd, vsn, gW, qd, qv, ev, pick, argE, List.map_cons, List.map_nil, Option.map_some, Option.map_none, zipE, List.cons_append, List.nil_append, ne_eq, eq_self, forall_const, implies_true, if_true, if_false, reduceIte, List.cons.injEq, reduceCtorEq, Nat.reduceEqDiff, List.length_nil, List.length_cons, Nat.reduceAdd, Nat.reduceLT, List.set_cons_zero, List.set_cons_succ, ↓us_sDrawIsRegular, r_sDrawIsRegular]
    refine m_callw (.inl rfl) (sl1Cur_anyMethod_ok w0 b _ w2 (by omega) hc2) ?_
    rintro _ w3 ⟨hc3, hg3, nm, st, x, cs, rfl, ho, hm⟩
    have hb03 := hb02.same (hg3.block b0 hb02.lt (fun e => by have := Option.some.inj e; omega))
    simp only [↓vsd, vsn, gW, qd, qv, ev, pick, argE, List.map_cons, List.map_nil, Option.map_some, Option.map_none, zipE, List.cons_append, List.nil_append, ne_eq, eq_self, forall_const, implies_true, if_true, if_false, reduceIte, List.cons.injEq, reduceCtorEq, Nat.reduceEqDiff, List.length_nil, List.length_cons, Nat.reduceAdd, Nat.reduceLT, List.set_cons_zero, List.set_cons_succ, ↓us_sDrawIsRegular, r_sDrawIsRegular]
    refine m_st hb03 rfl (Nat.le_refl 3) (fM_one nm st _ ho.sq.one') ?_
    rintro w4 hblk4 hu4
    have hb4 : Blk w4 b0 (fM nm st x) 58 := hblk4
    simp only [↓vsd, vsn, gW, qd, qv, ev, pick, argE, List.map_cons, List.map_nil, Option.map_some, Option.map_none, zipE, List.cons_append, List.nil_append, ne_eq, eq_self, forall_const, implies_true, if_true, if_false, reduceIte, List.cons.injEq, reduceCtorEq, Nat.reduceEqDiff, List.length_nil, List.length_cons, Nat.reduceAdd, Nat.reduceLT, List.set_cons_zero, List.set_cons_succ, ↓us_sDrawIsRegular, r_sDrawIsRegular, hb4.facts, fMg]
    exact ⟨hu4.below (hx0.trans hc3.base) (by omega), nm, st, x, cs, rfl, (ho.upd hu4 (ho.away' (by have := hb02.lt; omega))).mono hs2, hm⟩
theorem sDrawTurnOf_ok (v : Value) (code : List UInt8) (hl : code.length ≤ 1048576) (w : World) (h : Sq fU 1 w v code) : Fn 117 [v] w (fun r w' => AnyM w.heap.size r w') := by
  (refine callsV_of mix Try.func117 c_sDrawTurnOf ?_; simp only [↓vsd, vsn, gW, qd, qv, ev, pick, argE, List.map_cons, List.map_nil, Option.map_some, Option.map_none, zipE, List.cons_append, List.nil_append, ne_eq, eq_self, forall_const, implies_true, if_true, if_false, reduceIte, List.cons.injEq, reduceCtorEq, Nat.reduceEqDiff, List.length_nil, List.length_cons, Nat.reduceAdd, Nat.reduceLT, List.set_cons_zero, List.set_cons_succ, ↓us_sDrawTurnOf, r_sDrawTurnOf])
  refine m_al ?_
  rintro b0 w0 hb0 hblk0 hx0 hs0
  simp only [↓vsd, vsn, gW, qd, qv, ev, pick, argE, List.map_cons, List.map_nil, Option.map_some, Option.map_none, zipE, List.cons_append, List.nil_append, ne_eq, eq_self, forall_const, implies_true, if_true, if_false, reduceIte, List.cons.injEq, reduceCtorEq, Nat.reduceEqDiff, List.length_nil, List.length_cons, Nat.reduceAdd, Nat.reduceLT, List.set_cons_zero, List.set_cons_succ, ↓us_sDrawTurnOf, r_sDrawTurnOf]
  refine m_call (sDrawIsRegular_ok v code hl _ (h.ext hx0)) ?_
  rintro _ w1 hx1 ⟨nm, st, x, cs, rfl, ho, hm⟩
  simp only [↓vsd, vsn, gW, qd, qv, ev, pick, argE, List.map_cons, List.map_nil, Option.map_some, Option.map_none, zipE, List.cons_append, List.nil_append, ne_eq, eq_self, forall_const, implies_true, if_true, if_false, reduceIte, List.cons.injEq, reduceCtorEq, Nat.reduceEqDiff, List.length_nil, List.length_cons, Nat.reduceAdd, Nat.reduceLT, List.set_cons_zero, List.set_cons_succ, ↓us_sDrawTurnOf, r_sDrawTurnOf]
  refine m_st (Blk.ext hblk0 hx1) rfl (Nat.le_refl 3) (fM_one nm st _ ho.sq.one') ?_
  rintro w4 hblk4 hu4
  have hb4 : Blk w4 b0 (fM nm st x) 58 := hblk4
  simp only [↓vsd, vsn, gW, qd, qv, ev, pick, argE, List.map_cons, List.map_nil, Option.map_some, Option.map_none, zipE, List.cons_append, List.nil_append, ne_eq, eq_self, forall_const, implies_true, if_true, if_false, reduceIte, List.cons.injEq, reduceCtorEq, Nat.reduceEqDiff, List.length_nil, List.length_cons, Nat.reduceAdd, Nat.reduceLT, List.set_cons_zero, List.set_cons_succ, ↓us_sDrawTurnOf, r_sDrawTurnOf, hb4.facts, fMg]
  exact ⟨hu4.below (hx0.trans hx1) (by omega), nm, st, x, cs, rfl, (ho.upd hu4 (ho.away' (by omega))).mono hx0.size, hm⟩
end Go.Proofs.Ytjcnmobdlkmaeaa
