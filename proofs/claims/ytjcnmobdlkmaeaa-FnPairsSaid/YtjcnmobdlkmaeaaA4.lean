/-
  Coursing orders: the places; CourseOf and RowOfCourse; the laws' calls.
  Conditions: none.
-/
import Derived.Test.YtjcnmobdlkmaeaaA1
set_option linter.unusedSimpArgs false
set_option linter.unusedVariables false
set_option linter.defProp false
namespace Go.Proofs.Ytjcnmobdlkmaeaa
open Go Go.RowKit
def t_sl15Places_1 : X := (.cond (.t 8) .skip (.exit 0))
theorem u_sl15Places_1 (P : Program) (k : KT) (e : Env) (w : World) : vcK P t_sl15Places_1 k e w = vcK P (.cond (.t 8) .skip (.exit 0)) k e w := rfl
def t_sl15Places_2 : X := (.reg [0, 3, 4] (.c (.q 9 [] (.mv (.t 4))) (.c (.q 10 [] (.bin .add (.t 9) (.c (.int .i64 2)))) (.c (.q 4 [] (.mv (.t 10))) .nil))))
theorem u_sl15Places_2 (P : Program) (k : KT) (e : Env) (w : World) : vcK P t_sl15Places_2 k e w = vcK P (.reg [0, 3, 4] (.c (.q 9 [] (.mv (.t 4))) (.c (.q 10 [] (.bin .add (.t 9) (.c (.int .i64 2)))) (.c (.q 4 [] (.mv (.t 10))) .nil)))) k e w := rfl
def t_sl15Places_3 : X := (.seq (.blk 1 (.reg [0, 3, 4] (.c (.q 11 [] (.mv (.t 3))) (.c (.q 12 [] (.mv (.t 4))) (.c (.e (some 13) [] (.bsl 3 1 [(.t 12)])) (.c (.e (some 14) [] (.app 28 3 1 8 [(.int .i64 0)] 28 (.t 11) (.t 13))) (.c (.q 3 [] (.mv (.t 14))) .nil))))))) t_sl15Places_2)
theorem u_sl15Places_3 (P : Program) (k : KT) (e : Env) (w : World) : vcK P t_sl15Places_3 k e w = vcK P (.seq (.blk 1 (.reg [0, 3, 4] (.c (.q 11 [] (.mv (.t 3))) (.c (.q 12 [] (.mv (.t 4))) (.c (.e (some 13) [] (.bsl 3 1 [(.t 12)])) (.c (.e (some 14) [] (.app 28 3 1 8 [(.int .i64 0)] 28 (.t 11) (.t 13))) (.c (.q 3 [] (.mv (.t 14))) .nil))))))) t_sl15Places_2) k e w := rfl
def t_sl15Places_4 : X := (.seq (.seq (.reg [0, 3, 4, 8] (.c (.q 6 [] (.mv (.t 4))) (.c (.q 7 [] (.mv (.t 0))) (.c (.q 8 [] (.bin .leq (.t 6) (.t 7))) .nil)))) t_sl15Places_1) t_sl15Places_3)
theorem u_sl15Places_4 (P : Program) (k : KT) (e : Env) (w : World) : vcK P t_sl15Places_4 k e w = vcK P (.seq (.seq (.reg [0, 3, 4, 8] (.c (.q 6 [] (.mv (.t 4))) (.c (.q 7 [] (.mv (.t 0))) (.c (.q 8 [] (.bin .leq (.t 6) (.t 7))) .nil)))) t_sl15Places_1) t_sl15Places_3) k e w := rfl
def t_sl15Places_5 : X := (.blk 0 (.loop [3, 4] [0] t_sl15Places_4))
theorem u_sl15Places_5 (P : Program) (k : KT) (e : Env) (w : World) : vcK P t_sl15Places_5 k e w = vcK P (.blk 0 (.loop [3, 4] [0] t_sl15Places_4)) k e w := rfl
def t_sl15Places_6 : X := (.cond (.t 18) (.reg [3, 5] (.c (.q 19 [] (.mv (.t 0))) (.c (.q 20 [] (.bin .sub (.t 19) (.c (.int .i64 1)))) (.c (.q 5 [] (.mv (.t 20))) .nil)))) .skip)
theorem u_sl15Places_6 (P : Program) (k : KT) (e : Env) (w : World) : vcK P t_sl15Places_6 k e w = vcK P (.cond (.t 18) (.reg [3, 5] (.c (.q 19 [] (.mv (.t 0))) (.c (.q 20 [] (.bin .sub (.t 19) (.c (.int .i64 1)))) (.c (.q 5 [] (.mv (.t 20))) .nil)))) .skip) k e w := rfl
def t_sl15Places_7 : X := (.cond (.t 22) .skip (.exit 2))
theorem u_sl15Places_7 (P : Program) (k : KT) (e : Env) (w : World) : vcK P t_sl15Places_7 k e w = vcK P (.cond (.t 22) .skip (.exit 2)) k e w := rfl
def t_sl15Places_8 : X := (.reg [3, 5] (.c (.q 23 [] (.mv (.t 5))) (.c (.q 24 [] (.bin .sub (.t 23) (.c (.int .i64 2)))) (.c (.q 5 [] (.mv (.t 24))) .nil))))
theorem u_sl15Places_8 (P : Program) (k : KT) (e : Env) (w : World) : vcK P t_sl15Places_8 k e w = vcK P (.reg [3, 5] (.c (.q 23 [] (.mv (.t 5))) (.c (.q 24 [] (.bin .sub (.t 23) (.c (.int .i64 2)))) (.c (.q 5 [] (.mv (.t 24))) .nil)))) k e w := rfl
def t_sl15Places_9 : X := (.seq (.blk 3 (.reg [3, 5] (.c (.q 25 [] (.mv (.t 3))) (.c (.q 26 [] (.mv (.t 5))) (.c (.e (some 27) [] (.bsl 3 1 [(.t 26)])) (.c (.e (some 28) [] (.app 28 3 1 8 [(.int .i64 0)] 28 (.t 25) (.t 27))) (.c (.q 3 [] (.mv (.t 28))) .nil))))))) t_sl15Places_8)
theorem u_sl15Places_9 (P : Program) (k : KT) (e : Env) (w : World) : vcK P t_sl15Places_9 k e w = vcK P (.seq (.blk 3 (.reg [3, 5] (.c (.q 25 [] (.mv (.t 3))) (.c (.q 26 [] (.mv (.t 5))) (.c (.e (some 27) [] (.bsl 3 1 [(.t 26)])) (.c (.e (some 28) [] (.app 28 3 1 8 [(.int .i64 0)] 28 (.t 25) (.t 27))) (.c (.q 3 [] (.mv (.t 28))) .nil))))))) t_sl15Places_8) k e w := rfl
def t_sl15Places_10 : X := (.seq (.seq (.reg [3, 5, 22] (.c (.q 21 [] (.mv (.t 5))) (.c (.q 22 [] (.bin .geq (.t 21) (.c (.int .i64 3)))) .nil))) t_sl15Places_7) t_sl15Places_9)
theorem u_sl15Places_10 (P : Program) (k : KT) (e : Env) (w : World) : vcK P t_sl15Places_10 k e w = vcK P (.seq (.seq (.reg [3, 5, 22] (.c (.q 21 [] (.mv (.t 5))) (.c (.q 22 [] (.bin .geq (.t 21) (.c (.int .i64 3)))) .nil))) t_sl15Places_7) t_sl15Places_9) k e w := rfl
def t_sl15Places_11 : X := (.seq (.reg [2] (.c (.q 29 [] (.mv (.t 3))) (.c (.q 2 [] (.mv (.t 29))) .nil))) .ret)
theorem u_sl15Places_11 (P : Program) (k : KT) (e : Env) (w : World) : vcK P t_sl15Places_11 k e w = vcK P (.seq (.reg [2] (.c (.q 29 [] (.mv (.t 3))) (.c (.q 2 [] (.mv (.t 29))) .nil))) .ret) k e w := rfl
def t_sl15Places_12 : X := (.seq (.blk 2 (.loop [3, 5] [] t_sl15Places_10)) t_sl15Places_11)
theorem u_sl15Places_12 (P : Program) (k : KT) (e : Env) (w : World) : vcK P t_sl15Places_12 k e w = vcK P (.seq (.blk 2 (.loop [3, 5] [] t_sl15Places_10)) t_sl15Places_11) k e w := rfl
def t_sl15Places_13 : X := (.seq (.seq (.reg [0, 3, 5, 18] (.c (.q 16 [] (.mv (.t 0))) (.c (.q 17 [] (.bin .rem (.t 16) (.c (.int .i64 2)))) (.c (.q 18 [] (.bin .eql (.t 17) (.c (.int .i64 0)))) .nil)))) t_sl15Places_6) t_sl15Places_12)
theorem u_sl15Places_13 (P : Program) (k : KT) (e : Env) (w : World) : vcK P t_sl15Places_13 k e w = vcK P (.seq (.seq (.reg [0, 3, 5, 18] (.c (.q 16 [] (.mv (.t 0))) (.c (.q 17 [] (.bin .rem (.t 16) (.c (.int .i64 2)))) (.c (.q 18 [] (.bin .eql (.t 17) (.c (.int .i64 0)))) .nil)))) t_sl15Places_6) t_sl15Places_12) k e w := rfl
def t_sl15Places_14 : X := (.seq (.reg [0, 3, 5] (.c (.q 15 [] (.mv (.t 0))) (.c (.q 5 [] (.mv (.t 15))) .nil))) t_sl15Places_13)
theorem u_sl15Places_14 (P : Program) (k : KT) (e : Env) (w : World) : vcK P t_sl15Places_14 k e w = vcK P (.seq (.reg [0, 3, 5] (.c (.q 15 [] (.mv (.t 0))) (.c (.q 5 [] (.mv (.t 15))) .nil))) t_sl15Places_13) k e w := rfl
def t_sl15Places_15 : X := (.seq (.seq (.reg [0, 3, 4] (.c (.q 4 [] (.mv (.c (.int .i64 2)))) .nil)) t_sl15Places_5) t_sl15Places_14)
theorem u_sl15Places_15 (P : Program) (k : KT) (e : Env) (w : World) : vcK P t_sl15Places_15 k e w = vcK P (.seq (.seq (.reg [0, 3, 4] (.c (.q 4 [] (.mv (.c (.int .i64 2)))) .nil)) t_sl15Places_5) t_sl15Places_14) k e w := rfl
def t_sl15Places_16 : X := (.seq (.reg [0, 3] (.c (.q 3 [] (.mv (.c (.slice none 0 0)))) .nil)) t_sl15Places_15)
theorem u_sl15Places_16 (P : Program) (k : KT) (e : Env) (w : World) : vcK P t_sl15Places_16 k e w = vcK P (.seq (.reg [0, 3] (.c (.q 3 [] (.mv (.c (.slice none 0 0)))) .nil)) t_sl15Places_15) k e w := rfl
def x_sl15Places : X := (.seq (.reg [0] (.c (.q 2 [] (.mv (.c (.slice none 0 0)))) .nil)) t_sl15Places_16)
theorem u_sl15Places (P : Program) (k : KT) (e : Env) (w : World) : vcK P x_sl15Places k e w = vcK P (.seq (.reg [0] (.c (.q 2 [] (.mv (.c (.slice none 0 0)))) .nil)) t_sl15Places_16) k e w := rfl
def r_sl15Places : List XO := [(.mv (.t 2))]
theorem c_sl15Places : convF Try.prog [145, 147, 148, 149, 158, 205, 206, 232, 234, 247, 248, 256, 261, 283, 284, 299, 300, 307] Try.f251 [([0], []), ([0, 3], []), ([0, 3, 4], []), ([3, 4], [0]), ([0, 3, 4, 8], []), ([0, 3, 4], []), ([0, 3, 4], []), ([0, 3, 5], []), ([0, 3, 5, 18], []), ([3, 5], []), ([3, 5], []), ([3, 5, 22], []), ([3, 5], []), ([3, 5], []), ([2], [])] = some (x_sl15Places, r_sl15Places) := by kernel_rfl
def us_sl15Places := And.intro @u_sl15Places (And.intro @u_sl15Places_1 (And.intro @u_sl15Places_2 (And.intro @u_sl15Places_3 (And.intro @u_sl15Places_4 (And.intro @u_sl15Places_5 (And.intro @u_sl15Places_6 (And.intro @u_sl15Places_7 (And.intro @u_sl15Places_8 (And.intro @u_sl15Places_9 (And.intro @u_sl15Places_10 (And.intro @u_sl15Places_11 (And.intro @u_sl15Places_12 (And.intro @u_sl15Places_13 (And.intro @u_sl15Places_14 (And.intro @u_sl15Places_15 @u_sl15Places_16)))))))))))))))
def t_icoursing_1 : X := (.cond (.t 9) .skip (.exit 0))
theorem u_icoursing_1 (P : Program) (k : KT) (e : Env) (w : World) : vcK P t_icoursing_1 k e w = vcK P (.cond (.t 9) .skip (.exit 0)) k e w := rfl
def t_icoursing_2 : X := (.reg [0, 3, 4] (.c (.q 10 [] (.mv (.t 4))) (.c (.q 11 [] (.bin .add (.t 10) (.c (.int .i64 2)))) (.c (.q 4 [] (.mv (.t 11))) .nil))))
theorem u_icoursing_2 (P : Program) (k : KT) (e : Env) (w : World) : vcK P t_icoursing_2 k e w = vcK P (.reg [0, 3, 4] (.c (.q 10 [] (.mv (.t 4))) (.c (.q 11 [] (.bin .add (.t 10) (.c (.int .i64 2)))) (.c (.q 4 [] (.mv (.t 11))) .nil)))) k e w := rfl
def t_icoursing_3 : X := (.seq (.blk 1 (.reg [0, 3, 4] (.c (.q 12 [] (.mv (.t 3))) (.c (.q 13 [] (.mv (.t 4))) (.c (.e (some 14) [] (.bsl 3 1 [(.t 13)])) (.c (.e (some 15) [] (.app 28 3 1 8 [(.int .i64 0)] 28 (.t 12) (.t 14))) (.c (.q 3 [] (.mv (.t 15))) .nil))))))) t_icoursing_2)
theorem u_icoursing_3 (P : Program) (k : KT) (e : Env) (w : World) : vcK P t_icoursing_3 k e w = vcK P (.seq (.blk 1 (.reg [0, 3, 4] (.c (.q 12 [] (.mv (.t 3))) (.c (.q 13 [] (.mv (.t 4))) (.c (.e (some 14) [] (.bsl 3 1 [(.t 13)])) (.c (.e (some 15) [] (.app 28 3 1 8 [(.int .i64 0)] 28 (.t 12) (.t 14))) (.c (.q 3 [] (.mv (.t 15))) .nil))))))) t_icoursing_2) k e w := rfl
def t_icoursing_4 : X := (.seq (.seq (.reg [0, 3, 4, 9] (.c (.q 7 [] (.mv (.t 4))) (.c (.q 8 [] (.mv (.t 0))) (.c (.q 9 [] (.bin .leq (.t 7) (.t 8))) .nil)))) t_icoursing_1) t_icoursing_3)
theorem u_icoursing_4 (P : Program) (k : KT) (e : Env) (w : World) : vcK P t_icoursing_4 k e w = vcK P (.seq (.seq (.reg [0, 3, 4, 9] (.c (.q 7 [] (.mv (.t 4))) (.c (.q 8 [] (.mv (.t 0))) (.c (.q 9 [] (.bin .leq (.t 7) (.t 8))) .nil)))) t_icoursing_1) t_icoursing_3) k e w := rfl
def t_icoursing_5 : X := (.blk 0 (.loop [3, 4] [0] t_icoursing_4))
theorem u_icoursing_5 (P : Program) (k : KT) (e : Env) (w : World) : vcK P t_icoursing_5 k e w = vcK P (.blk 0 (.loop [3, 4] [0] t_icoursing_4)) k e w := rfl
def t_icoursing_6 : X := (.cond (.t 18) .skip (.exit 2))
theorem u_icoursing_6 (P : Program) (k : KT) (e : Env) (w : World) : vcK P t_icoursing_6 k e w = vcK P (.cond (.t 18) .skip (.exit 2)) k e w := rfl
def t_icoursing_7 : X := (.cond (.t 23) (.reg [3, 5] (.c (.q 24 [] (.mv (.t 3))) (.c (.q 25 [] (.mv (.t 5))) (.c (.e (some 26) [] (.bsl 3 1 [(.t 25)])) (.c (.e (some 27) [] (.app 28 3 1 8 [(.int .i64 0)] 28 (.t 24) (.t 26))) (.c (.q 3 [] (.mv (.t 27))) .nil)))))) .skip)
theorem u_icoursing_7 (P : Program) (k : KT) (e : Env) (w : World) : vcK P t_icoursing_7 k e w = vcK P (.cond (.t 23) (.reg [3, 5] (.c (.q 24 [] (.mv (.t 3))) (.c (.q 25 [] (.mv (.t 5))) (.c (.e (some 26) [] (.bsl 3 1 [(.t 25)])) (.c (.e (some 27) [] (.app 28 3 1 8 [(.int .i64 0)] 28 (.t 24) (.t 26))) (.c (.q 3 [] (.mv (.t 27))) .nil)))))) .skip) k e w := rfl
def t_icoursing_8 : X := (.reg [3, 5] (.c (.q 19 [] (.mv (.t 5))) (.c (.q 20 [] (.bin .sub (.t 19) (.c (.int .i64 1)))) (.c (.q 5 [] (.mv (.t 20))) .nil))))
theorem u_icoursing_8 (P : Program) (k : KT) (e : Env) (w : World) : vcK P t_icoursing_8 k e w = vcK P (.reg [3, 5] (.c (.q 19 [] (.mv (.t 5))) (.c (.q 20 [] (.bin .sub (.t 19) (.c (.int .i64 1)))) (.c (.q 5 [] (.mv (.t 20))) .nil)))) k e w := rfl
def t_icoursing_9 : X := (.seq (.blk 3 (.seq (.reg [3, 5, 23] (.c (.q 21 [] (.mv (.t 5))) (.c (.q 22 [] (.bin .rem (.t 21) (.c (.int .i64 2)))) (.c (.q 23 [] (.bin .eql (.t 22) (.c (.int .i64 1)))) .nil)))) t_icoursing_7)) t_icoursing_8)
theorem u_icoursing_9 (P : Program) (k : KT) (e : Env) (w : World) : vcK P t_icoursing_9 k e w = vcK P (.seq (.blk 3 (.seq (.reg [3, 5, 23] (.c (.q 21 [] (.mv (.t 5))) (.c (.q 22 [] (.bin .rem (.t 21) (.c (.int .i64 2)))) (.c (.q 23 [] (.bin .eql (.t 22) (.c (.int .i64 1)))) .nil)))) t_icoursing_7)) t_icoursing_8) k e w := rfl
def t_icoursing_10 : X := (.seq (.seq (.reg [3, 5, 18] (.c (.q 17 [] (.mv (.t 5))) (.c (.q 18 [] (.bin .geq (.t 17) (.c (.int .i64 3)))) .nil))) t_icoursing_6) t_icoursing_9)
theorem u_icoursing_10 (P : Program) (k : KT) (e : Env) (w : World) : vcK P t_icoursing_10 k e w = vcK P (.seq (.seq (.reg [3, 5, 18] (.c (.q 17 [] (.mv (.t 5))) (.c (.q 18 [] (.bin .geq (.t 17) (.c (.int .i64 3)))) .nil))) t_icoursing_6) t_icoursing_9) k e w := rfl
def t_icoursing_11 : X := (.blk 2 (.loop [3, 5] [] t_icoursing_10))
theorem u_icoursing_11 (P : Program) (k : KT) (e : Env) (w : World) : vcK P t_icoursing_11 k e w = vcK P (.blk 2 (.loop [3, 5] [] t_icoursing_10)) k e w := rfl
def t_icoursing_12 : X := (.seq (.reg [2] (.c (.q 28 [] (.mv (.t 3))) (.c (.q 2 [] (.mv (.t 28))) .nil))) .ret)
theorem u_icoursing_12 (P : Program) (k : KT) (e : Env) (w : World) : vcK P t_icoursing_12 k e w = vcK P (.seq (.reg [2] (.c (.q 28 [] (.mv (.t 3))) (.c (.q 2 [] (.mv (.t 28))) .nil))) .ret) k e w := rfl
def t_icoursing_13 : X := (.seq (.seq (.reg [3, 5] (.c (.q 16 [] (.mv (.t 0))) (.c (.q 5 [] (.mv (.t 16))) .nil))) t_icoursing_11) t_icoursing_12)
theorem u_icoursing_13 (P : Program) (k : KT) (e : Env) (w : World) : vcK P t_icoursing_13 k e w = vcK P (.seq (.seq (.reg [3, 5] (.c (.q 16 [] (.mv (.t 0))) (.c (.q 5 [] (.mv (.t 16))) .nil))) t_icoursing_11) t_icoursing_12) k e w := rfl
def t_icoursing_14 : X := (.seq (.seq (.reg [0, 3, 4] (.c (.q 4 [] (.mv (.c (.int .i64 2)))) .nil)) t_icoursing_5) t_icoursing_13)
theorem u_icoursing_14 (P : Program) (k : KT) (e : Env) (w : World) : vcK P t_icoursing_14 k e w = vcK P (.seq (.seq (.reg [0, 3, 4] (.c (.q 4 [] (.mv (.c (.int .i64 2)))) .nil)) t_icoursing_5) t_icoursing_13) k e w := rfl
def t_icoursing_15 : X := (.seq (.reg [0, 3] (.c (.e (some 6) [] (.bsl 3 1 [])) (.c (.q 3 [] (.mv (.t 6))) .nil))) t_icoursing_14)
theorem u_icoursing_15 (P : Program) (k : KT) (e : Env) (w : World) : vcK P t_icoursing_15 k e w = vcK P (.seq (.reg [0, 3] (.c (.e (some 6) [] (.bsl 3 1 [])) (.c (.q 3 [] (.mv (.t 6))) .nil))) t_icoursing_14) k e w := rfl
def x_icoursing : X := (.seq (.reg [0] (.c (.q 2 [] (.mv (.c (.slice none 0 0)))) .nil)) t_icoursing_15)
theorem u_icoursing (P : Program) (k : KT) (e : Env) (w : World) : vcK P x_icoursing k e w = vcK P (.seq (.reg [0] (.c (.q 2 [] (.mv (.c (.slice none 0 0)))) .nil)) t_icoursing_15) k e w := rfl
def r_icoursing : List XO := [(.mv (.t 2))]
theorem c_icoursing : convF Try.prog [145, 147, 148, 149, 158, 205, 206, 232, 234, 247, 248, 256, 261, 283, 284, 299, 300, 307] Try.f250 [([0], []), ([0, 3], []), ([0, 3, 4], []), ([3, 4], [0]), ([0, 3, 4, 9], []), ([0, 3, 4], []), ([0, 3, 4], []), ([3, 5], []), ([3, 5], []), ([3, 5, 18], []), ([3, 5, 23], []), ([3, 5], []), ([3, 5], []), ([2], [])] = some (x_icoursing, r_icoursing) := by kernel_rfl
def us_icoursing := And.intro @u_icoursing (And.intro @u_icoursing_1 (And.intro @u_icoursing_2 (And.intro @u_icoursing_3 (And.intro @u_icoursing_4 (And.intro @u_icoursing_5 (And.intro @u_icoursing_6 (And.intro @u_icoursing_7 (And.intro @u_icoursing_8 (And.intro @u_icoursing_9 (And.intro @u_icoursing_10 (And.intro @u_icoursing_11 (And.intro @u_icoursing_12 (And.intro @u_icoursing_13 (And.intro @u_icoursing_14 @u_icoursing_15))))))))))))))
def t_sl15Course_1 : X := (.reg [0, 3, 8, 9, 10] (.c (.q 14 [] (.mv (.t 3))) (.c (.q 15 [] (.mv (.t 0))) (.c (.q 16 [] (.mv (.t 5))) (.c (.q 17 [] (.bin .sub (.t 16) (.c (.int .i64 1)))) (.c (.q 18 [] (.mv (.t 5))) (.c (.q 19 [] (.sub (.t 15) (some (.t 17)) (some (.t 18)))) (.c (.q 20 [] (.bin .add (.t 14) (.t 19))) (.c (.q 3 [] (.mv (.t 20))) .nil)))))))))
theorem u_sl15Course_1 (P : Program) (k : KT) (e : Env) (w : World) : vcK P t_sl15Course_1 k e w = vcK P (.reg [0, 3, 8, 9, 10] (.c (.q 14 [] (.mv (.t 3))) (.c (.q 15 [] (.mv (.t 0))) (.c (.q 16 [] (.mv (.t 5))) (.c (.q 17 [] (.bin .sub (.t 16) (.c (.int .i64 1)))) (.c (.q 18 [] (.mv (.t 5))) (.c (.q 19 [] (.sub (.t 15) (some (.t 17)) (some (.t 18)))) (.c (.q 20 [] (.bin .add (.t 14) (.t 19))) (.c (.q 3 [] (.mv (.t 20))) .nil))))))))) k e w := rfl
def t_sl15Course_2 : X := (.reg [0, 3, 8, 9, 10] (.c (.q 21 [] (.bin .add (.t 10) (.c (.int .i64 1)))) (.c (.q 10 [] (.mv (.t 21))) .nil)))
theorem u_sl15Course_2 (P : Program) (k : KT) (e : Env) (w : World) : vcK P t_sl15Course_2 k e w = vcK P (.reg [0, 3, 8, 9, 10] (.c (.q 21 [] (.bin .add (.t 10) (.c (.int .i64 1)))) (.c (.q 10 [] (.mv (.t 21))) .nil))) k e w := rfl
def t_sl15Course_3 : X := (.seq (.blk 1 (.seq (.reg [0, 3, 5, 8, 9, 10] (.c (.q 12 [] (.ia 1 (.t 8) (.t 10))) (.c (.q 13 [] (.ld (.t 12))) (.c (.q 5 [] (.mv (.t 13))) .nil)))) t_sl15Course_1)) t_sl15Course_2)
theorem u_sl15Course_3 (P : Program) (k : KT) (e : Env) (w : World) : vcK P t_sl15Course_3 k e w = vcK P (.seq (.blk 1 (.seq (.reg [0, 3, 5, 8, 9, 10] (.c (.q 12 [] (.ia 1 (.t 8) (.t 10))) (.c (.q 13 [] (.ld (.t 12))) (.c (.q 5 [] (.mv (.t 13))) .nil)))) t_sl15Course_1)) t_sl15Course_2) k e w := rfl
def t_sl15Course_4 : X := (.seq (.cond (.t 11) .skip (.exit 0)) t_sl15Course_3)
theorem u_sl15Course_4 (P : Program) (k : KT) (e : Env) (w : World) : vcK P t_sl15Course_4 k e w = vcK P (.seq (.cond (.t 11) .skip (.exit 0)) t_sl15Course_3) k e w := rfl
def t_sl15Course_5 : X := (.seq (.reg [0, 3, 8, 9, 10, 11] (.c (.q 11 [] (.bin .lss (.t 10) (.t 9))) .nil)) t_sl15Course_4)
theorem u_sl15Course_5 (P : Program) (k : KT) (e : Env) (w : World) : vcK P t_sl15Course_5 k e w = vcK P (.seq (.reg [0, 3, 8, 9, 10, 11] (.c (.q 11 [] (.bin .lss (.t 10) (.t 9))) .nil)) t_sl15Course_4) k e w := rfl
def t_sl15Course_6 : X := (.blk 0 (.loop [3, 10] [0, 8, 9] t_sl15Course_5))
theorem u_sl15Course_6 (P : Program) (k : KT) (e : Env) (w : World) : vcK P t_sl15Course_6 k e w = vcK P (.blk 0 (.loop [3, 10] [0, 8, 9] t_sl15Course_5)) k e w := rfl
def t_sl15Course_7 : X := (.seq (.reg [2] (.c (.q 22 [] (.mv (.t 3))) (.c (.q 2 [] (.mv (.t 22))) .nil))) .ret)
theorem u_sl15Course_7 (P : Program) (k : KT) (e : Env) (w : World) : vcK P t_sl15Course_7 k e w = vcK P (.seq (.reg [2] (.c (.q 22 [] (.mv (.t 3))) (.c (.q 2 [] (.mv (.t 22))) .nil))) .ret) k e w := rfl
def t_sl15Course_8 : X := (.seq (.seq (.reg [0, 3, 8, 9, 10] (.c (.q 6 [] (.mv (.t 0))) (.c (.q 7 [] (.len (.t 6))) (.c (.e (some 8) [] (.call false 251 [(.t 7)])) (.c (.q 9 [] (.lens (.t 8))) (.c (.q 10 [] (.mv (.c (.int .i64 0)))) .nil)))))) t_sl15Course_6) t_sl15Course_7)
theorem u_sl15Course_8 (P : Program) (k : KT) (e : Env) (w : World) : vcK P t_sl15Course_8 k e w = vcK P (.seq (.seq (.reg [0, 3, 8, 9, 10] (.c (.q 6 [] (.mv (.t 0))) (.c (.q 7 [] (.len (.t 6))) (.c (.e (some 8) [] (.call false 251 [(.t 7)])) (.c (.q 9 [] (.lens (.t 8))) (.c (.q 10 [] (.mv (.c (.int .i64 0)))) .nil)))))) t_sl15Course_6) t_sl15Course_7) k e w := rfl
def t_sl15Course_9 : X := (.seq (.reg [0, 3] (.c (.q 3 [] (.mv (.s []))) .nil)) t_sl15Course_8)
theorem u_sl15Course_9 (P : Program) (k : KT) (e : Env) (w : World) : vcK P t_sl15Course_9 k e w = vcK P (.seq (.reg [0, 3] (.c (.q 3 [] (.mv (.s []))) .nil)) t_sl15Course_8) k e w := rfl
def x_sl15Course : X := (.seq (.reg [0] (.c (.q 2 [] (.mv (.s []))) .nil)) t_sl15Course_9)
theorem u_sl15Course (P : Program) (k : KT) (e : Env) (w : World) : vcK P x_sl15Course k e w = vcK P (.seq (.reg [0] (.c (.q 2 [] (.mv (.s []))) .nil)) t_sl15Course_9) k e w := rfl
def r_sl15Course : List XO := [(.mv (.t 2))]
theorem c_sl15Course : convF Try.prog [145, 147, 148, 149, 158, 205, 206, 232, 234, 247, 248, 256, 261, 283, 284, 299, 300, 307] Try.f179 [([0], []), ([0, 3], []), ([0, 3, 8, 9, 10], []), ([3, 10], [0, 8, 9]), ([0, 3, 8, 9, 10, 11], []), ([0, 3, 5, 8, 9, 10], []), ([0, 3, 8, 9, 10], []), ([0, 3, 8, 9, 10], []), ([2], [])] = some (x_sl15Course, r_sl15Course) := by kernel_rfl
def us_sl15Course := And.intro @u_sl15Course (And.intro @u_sl15Course_1 (And.intro @u_sl15Course_2 (And.intro @u_sl15Course_3 (And.intro @u_sl15Course_4 (And.intro @u_sl15Course_5 (And.intro @u_sl15Course_6 (And.intro @u_sl15Course_7 (And.intro @u_sl15Course_8 @u_sl15Course_9))))))))
def t_icourseOf_1 : X := (.reg [0, 3, 8, 9, 10] (.c (.q 14 [] (.mv (.t 3))) (.c (.q 15 [] (.mv (.t 0))) (.c (.q 16 [] (.mv (.t 5))) (.c (.q 17 [] (.bin .sub (.t 16) (.c (.int .i64 1)))) (.c (.q 18 [] (.mv (.t 5))) (.c (.q 19 [] (.sub (.t 15) (some (.t 17)) (some (.t 18)))) (.c (.q 20 [] (.bin .add (.t 14) (.t 19))) (.c (.q 3 [] (.mv (.t 20))) .nil)))))))))
theorem u_icourseOf_1 (P : Program) (k : KT) (e : Env) (w : World) : vcK P t_icourseOf_1 k e w = vcK P (.reg [0, 3, 8, 9, 10] (.c (.q 14 [] (.mv (.t 3))) (.c (.q 15 [] (.mv (.t 0))) (.c (.q 16 [] (.mv (.t 5))) (.c (.q 17 [] (.bin .sub (.t 16) (.c (.int .i64 1)))) (.c (.q 18 [] (.mv (.t 5))) (.c (.q 19 [] (.sub (.t 15) (some (.t 17)) (some (.t 18)))) (.c (.q 20 [] (.bin .add (.t 14) (.t 19))) (.c (.q 3 [] (.mv (.t 20))) .nil))))))))) k e w := rfl
def t_icourseOf_2 : X := (.reg [0, 3, 8, 9, 10] (.c (.q 21 [] (.bin .add (.t 10) (.c (.int .i64 1)))) (.c (.q 10 [] (.mv (.t 21))) .nil)))
theorem u_icourseOf_2 (P : Program) (k : KT) (e : Env) (w : World) : vcK P t_icourseOf_2 k e w = vcK P (.reg [0, 3, 8, 9, 10] (.c (.q 21 [] (.bin .add (.t 10) (.c (.int .i64 1)))) (.c (.q 10 [] (.mv (.t 21))) .nil))) k e w := rfl
def t_icourseOf_3 : X := (.seq (.blk 1 (.seq (.reg [0, 3, 5, 8, 9, 10] (.c (.q 12 [] (.ia 1 (.t 8) (.t 10))) (.c (.q 13 [] (.ld (.t 12))) (.c (.q 5 [] (.mv (.t 13))) .nil)))) t_icourseOf_1)) t_icourseOf_2)
theorem u_icourseOf_3 (P : Program) (k : KT) (e : Env) (w : World) : vcK P t_icourseOf_3 k e w = vcK P (.seq (.blk 1 (.seq (.reg [0, 3, 5, 8, 9, 10] (.c (.q 12 [] (.ia 1 (.t 8) (.t 10))) (.c (.q 13 [] (.ld (.t 12))) (.c (.q 5 [] (.mv (.t 13))) .nil)))) t_icourseOf_1)) t_icourseOf_2) k e w := rfl
def t_icourseOf_4 : X := (.seq (.cond (.t 11) .skip (.exit 0)) t_icourseOf_3)
theorem u_icourseOf_4 (P : Program) (k : KT) (e : Env) (w : World) : vcK P t_icourseOf_4 k e w = vcK P (.seq (.cond (.t 11) .skip (.exit 0)) t_icourseOf_3) k e w := rfl
def t_icourseOf_5 : X := (.seq (.reg [0, 3, 8, 9, 10, 11] (.c (.q 11 [] (.bin .lss (.t 10) (.t 9))) .nil)) t_icourseOf_4)
theorem u_icourseOf_5 (P : Program) (k : KT) (e : Env) (w : World) : vcK P t_icourseOf_5 k e w = vcK P (.seq (.reg [0, 3, 8, 9, 10, 11] (.c (.q 11 [] (.bin .lss (.t 10) (.t 9))) .nil)) t_icourseOf_4) k e w := rfl
def t_icourseOf_6 : X := (.blk 0 (.loop [3, 10] [0, 8, 9] t_icourseOf_5))
theorem u_icourseOf_6 (P : Program) (k : KT) (e : Env) (w : World) : vcK P t_icourseOf_6 k e w = vcK P (.blk 0 (.loop [3, 10] [0, 8, 9] t_icourseOf_5)) k e w := rfl
def t_icourseOf_7 : X := (.seq (.reg [2] (.c (.q 22 [] (.mv (.t 3))) (.c (.q 2 [] (.mv (.t 22))) .nil))) .ret)
theorem u_icourseOf_7 (P : Program) (k : KT) (e : Env) (w : World) : vcK P t_icourseOf_7 k e w = vcK P (.seq (.reg [2] (.c (.q 22 [] (.mv (.t 3))) (.c (.q 2 [] (.mv (.t 22))) .nil))) .ret) k e w := rfl
def t_icourseOf_8 : X := (.seq (.seq (.reg [0, 3, 8, 9, 10] (.c (.q 6 [] (.mv (.t 0))) (.c (.q 7 [] (.len (.t 6))) (.c (.e (some 8) [] (.call false 250 [(.t 7)])) (.c (.q 9 [] (.lens (.t 8))) (.c (.q 10 [] (.mv (.c (.int .i64 0)))) .nil)))))) t_icourseOf_6) t_icourseOf_7)
theorem u_icourseOf_8 (P : Program) (k : KT) (e : Env) (w : World) : vcK P t_icourseOf_8 k e w = vcK P (.seq (.seq (.reg [0, 3, 8, 9, 10] (.c (.q 6 [] (.mv (.t 0))) (.c (.q 7 [] (.len (.t 6))) (.c (.e (some 8) [] (.call false 250 [(.t 7)])) (.c (.q 9 [] (.lens (.t 8))) (.c (.q 10 [] (.mv (.c (.int .i64 0)))) .nil)))))) t_icourseOf_6) t_icourseOf_7) k e w := rfl
def t_icourseOf_9 : X := (.seq (.reg [0, 3] (.c (.q 3 [] (.mv (.s []))) .nil)) t_icourseOf_8)
theorem u_icourseOf_9 (P : Program) (k : KT) (e : Env) (w : World) : vcK P t_icourseOf_9 k e w = vcK P (.seq (.reg [0, 3] (.c (.q 3 [] (.mv (.s []))) .nil)) t_icourseOf_8) k e w := rfl
def x_icourseOf : X := (.seq (.reg [0] (.c (.q 2 [] (.mv (.s []))) .nil)) t_icourseOf_9)
theorem u_icourseOf (P : Program) (k : KT) (e : Env) (w : World) : vcK P x_icourseOf k e w = vcK P (.seq (.reg [0] (.c (.q 2 [] (.mv (.s []))) .nil)) t_icourseOf_9) k e w := rfl
def r_icourseOf : List XO := [(.mv (.t 2))]
theorem c_icourseOf : convF Try.prog [145, 147, 148, 149, 158, 205, 206, 232, 234, 247, 248, 256, 261, 283, 284, 299, 300, 307] Try.f185 [([0], []), ([0, 3], []), ([0, 3, 8, 9, 10], []), ([3, 10], [0, 8, 9]), ([0, 3, 8, 9, 10, 11], []), ([0, 3, 5, 8, 9, 10], []), ([0, 3, 8, 9, 10], []), ([0, 3, 8, 9, 10], []), ([2], [])] = some (x_icourseOf, r_icourseOf) := by kernel_rfl
def us_icourseOf := And.intro @u_icourseOf (And.intro @u_icourseOf_1 (And.intro @u_icourseOf_2 (And.intro @u_icourseOf_3 (And.intro @u_icourseOf_4 (And.intro @u_icourseOf_5 (And.intro @u_icourseOf_6 (And.intro @u_icourseOf_7 (And.intro @u_icourseOf_8 @u_icourseOf_9))))))))
def t_sCourseOf_1 : X := (.cond (.t 11) (.seq (.reg [2, 3] (.c (.q 2 [] (.mv (.s []))) (.c (.q 3 [] (.mv (.c (.bool false)))) .nil))) .ret) .skip)
theorem u_sCourseOf_1 (P : Program) (k : KT) (e : Env) (w : World) : vcK P t_sCourseOf_1 k e w = vcK P (.cond (.t 11) (.seq (.reg [2, 3] (.c (.q 2 [] (.mv (.s []))) (.c (.q 3 [] (.mv (.c (.bool false)))) .nil))) .ret) .skip) k e w := rfl
def t_sCourseOf_2 : X := (.seq (.reg [2, 3] (.c (.q 12 [] (.mv (.t 0))) (.c (.e (some 13) [] (.call false 179 [(.t 12)])) (.c (.q 2 [] (.mv (.t 13))) (.c (.q 3 [] (.mv (.c (.bool true)))) .nil))))) .ret)
theorem u_sCourseOf_2 (P : Program) (k : KT) (e : Env) (w : World) : vcK P t_sCourseOf_2 k e w = vcK P (.seq (.reg [2, 3] (.c (.q 12 [] (.mv (.t 0))) (.c (.e (some 13) [] (.call false 179 [(.t 12)])) (.c (.q 2 [] (.mv (.t 13))) (.c (.q 3 [] (.mv (.c (.bool true)))) .nil))))) .ret) k e w := rfl
def t_sCourseOf_3 : X := (.seq (.seq (.reg [0, 11] (.c (.q 4 [] (.mv (.t 0))) (.c (.e (some 5) [] (.call false 146 [(.t 4)])) (.c (.q 6 [] (.not (.t 5))) (.c (.q 7 [] (.mv (.t 6))) (.c (.q 8 [(7, false)] (.mv (.t 0))) (.c (.q 9 [(7, false)] (.len (.t 8))) (.c (.q 10 [(7, false)] (.bin .lss (.t 9) (.c (.int .i64 4)))) (.c (.q 11 [] (.pick (.t 7) (.c (.bool true)) (.t 10))) .nil))))))))) t_sCourseOf_1) t_sCourseOf_2)
theorem u_sCourseOf_3 (P : Program) (k : KT) (e : Env) (w : World) : vcK P t_sCourseOf_3 k e w = vcK P (.seq (.seq (.reg [0, 11] (.c (.q 4 [] (.mv (.t 0))) (.c (.e (some 5) [] (.call false 146 [(.t 4)])) (.c (.q 6 [] (.not (.t 5))) (.c (.q 7 [] (.mv (.t 6))) (.c (.q 8 [(7, false)] (.mv (.t 0))) (.c (.q 9 [(7, false)] (.len (.t 8))) (.c (.q 10 [(7, false)] (.bin .lss (.t 9) (.c (.int .i64 4)))) (.c (.q 11 [] (.pick (.t 7) (.c (.bool true)) (.t 10))) .nil))))))))) t_sCourseOf_1) t_sCourseOf_2) k e w := rfl
def x_sCourseOf : X := (.seq (.reg [0] (.c (.q 2 [] (.mv (.s []))) (.c (.q 3 [] (.mv (.c (.bool false)))) .nil))) t_sCourseOf_3)
theorem u_sCourseOf (P : Program) (k : KT) (e : Env) (w : World) : vcK P x_sCourseOf k e w = vcK P (.seq (.reg [0] (.c (.q 2 [] (.mv (.s []))) (.c (.q 3 [] (.mv (.c (.bool false)))) .nil))) t_sCourseOf_3) k e w := rfl
def r_sCourseOf : List XO := [(.mv (.t 2)), (.mv (.t 3))]
theorem c_sCourseOf : convF Try.prog [145, 147, 148, 149, 158, 205, 206, 232, 234, 247, 248, 256, 261, 283, 284, 299, 300, 307] Try.f113 [([0], []), ([0, 11], []), ([2, 3], []), ([2, 3], [])] = some (x_sCourseOf, r_sCourseOf) := by kernel_rfl
def us_sCourseOf := And.intro @u_sCourseOf (And.intro @u_sCourseOf_1 (And.intro @u_sCourseOf_2 @u_sCourseOf_3))
def t_iCourseOf_1 : X := (.cond (.t 11) (.seq (.reg [2, 3] (.c (.q 2 [] (.mv (.s []))) (.c (.q 3 [] (.mv (.c (.bool false)))) .nil))) .ret) .skip)
theorem u_iCourseOf_1 (P : Program) (k : KT) (e : Env) (w : World) : vcK P t_iCourseOf_1 k e w = vcK P (.cond (.t 11) (.seq (.reg [2, 3] (.c (.q 2 [] (.mv (.s []))) (.c (.q 3 [] (.mv (.c (.bool false)))) .nil))) .ret) .skip) k e w := rfl
def t_iCourseOf_2 : X := (.seq (.reg [2, 3] (.c (.q 12 [] (.mv (.t 0))) (.c (.e (some 13) [] (.call false 185 [(.t 12)])) (.c (.q 2 [] (.mv (.t 13))) (.c (.q 3 [] (.mv (.c (.bool true)))) .nil))))) .ret)
theorem u_iCourseOf_2 (P : Program) (k : KT) (e : Env) (w : World) : vcK P t_iCourseOf_2 k e w = vcK P (.seq (.reg [2, 3] (.c (.q 12 [] (.mv (.t 0))) (.c (.e (some 13) [] (.call false 185 [(.t 12)])) (.c (.q 2 [] (.mv (.t 13))) (.c (.q 3 [] (.mv (.c (.bool true)))) .nil))))) .ret) k e w := rfl
def t_iCourseOf_3 : X := (.seq (.seq (.reg [0, 11] (.c (.q 4 [] (.mv (.t 0))) (.c (.e (some 5) [] (.call false 150 [(.t 4)])) (.c (.q 6 [] (.not (.t 5))) (.c (.q 7 [] (.mv (.t 6))) (.c (.q 8 [(7, false)] (.mv (.t 0))) (.c (.q 9 [(7, false)] (.len (.t 8))) (.c (.q 10 [(7, false)] (.bin .lss (.t 9) (.c (.int .i64 4)))) (.c (.q 11 [] (.pick (.t 7) (.c (.bool true)) (.t 10))) .nil))))))))) t_iCourseOf_1) t_iCourseOf_2)
theorem u_iCourseOf_3 (P : Program) (k : KT) (e : Env) (w : World) : vcK P t_iCourseOf_3 k e w = vcK P (.seq (.seq (.reg [0, 11] (.c (.q 4 [] (.mv (.t 0))) (.c (.e (some 5) [] (.call false 150 [(.t 4)])) (.c (.q 6 [] (.not (.t 5))) (.c (.q 7 [] (.mv (.t 6))) (.c (.q 8 [(7, false)] (.mv (.t 0))) (.c (.q 9 [(7, false)] (.len (.t 8))) (.c (.q 10 [(7, false)] (.bin .lss (.t 9) (.c (.int .i64 4)))) (.c (.q 11 [] (.pick (.t 7) (.c (.bool true)) (.t 10))) .nil))))))))) t_iCourseOf_1) t_iCourseOf_2) k e w := rfl
def x_iCourseOf : X := (.seq (.reg [0] (.c (.q 2 [] (.mv (.s []))) (.c (.q 3 [] (.mv (.c (.bool false)))) .nil))) t_iCourseOf_3)
theorem u_iCourseOf (P : Program) (k : KT) (e : Env) (w : World) : vcK P x_iCourseOf k e w = vcK P (.seq (.reg [0] (.c (.q 2 [] (.mv (.s []))) (.c (.q 3 [] (.mv (.c (.bool false)))) .nil))) t_iCourseOf_3) k e w := rfl
def r_iCourseOf : List XO := [(.mv (.t 2)), (.mv (.t 3))]
theorem c_iCourseOf : convF Try.prog [145, 147, 148, 149, 158, 205, 206, 232, 234, 247, 248, 256, 261, 283, 284, 299, 300, 307] Try.f112 [([0], []), ([0, 11], []), ([2, 3], []), ([2, 3], [])] = some (x_iCourseOf, r_iCourseOf) := by kernel_rfl
def us_iCourseOf := And.intro @u_iCourseOf (And.intro @u_iCourseOf_1 (And.intro @u_iCourseOf_2 @u_iCourseOf_3))
def t_sRowOfCourse_1 : X := (.cond (.t 21) (.seq (.reg [4, 5] (.c (.q 4 [] (.mv (.s []))) (.c (.q 5 [] (.mv (.c (.bool false)))) .nil))) .ret) .skip)
theorem u_sRowOfCourse_1 (P : Program) (k : KT) (e : Env) (w : World) : vcK P t_sRowOfCourse_1 k e w = vcK P (.cond (.t 21) (.seq (.reg [4, 5] (.c (.q 4 [] (.mv (.s []))) (.c (.q 5 [] (.mv (.c (.bool false)))) .nil))) .ret) .skip) k e w := rfl
def t_sRowOfCourse_2 : X := (.reg [1, 7, 30, 31, 32] (.c (.q 37 [] (.mv (.t 7))) (.c (.q 38 [] (.mv (.t 9))) (.c (.q 39 [] (.bin .sub (.t 38) (.c (.int .i64 1)))) (.c (.q 40 [] (.mv (.t 1))) (.c (.q 41 [] (.mv (.t 8))) (.c (.q 42 [] (.idx (.t 40) (.t 41))) (.c (.q 43 [] (.ia 1 (.t 37) (.t 39))) (.c (.e none [] (.st 1 (.t 43) (.t 42))) .nil)))))))))
theorem u_sRowOfCourse_2 (P : Program) (k : KT) (e : Env) (w : World) : vcK P t_sRowOfCourse_2 k e w = vcK P (.reg [1, 7, 30, 31, 32] (.c (.q 37 [] (.mv (.t 7))) (.c (.q 38 [] (.mv (.t 9))) (.c (.q 39 [] (.bin .sub (.t 38) (.c (.int .i64 1)))) (.c (.q 40 [] (.mv (.t 1))) (.c (.q 41 [] (.mv (.t 8))) (.c (.q 42 [] (.idx (.t 40) (.t 41))) (.c (.q 43 [] (.ia 1 (.t 37) (.t 39))) (.c (.e none [] (.st 1 (.t 43) (.t 42))) .nil))))))))) k e w := rfl
def t_sRowOfCourse_3 : X := (.reg [1, 7, 30, 31, 32] (.c (.q 44 [] (.bin .add (.t 32) (.c (.int .i64 1)))) (.c (.q 32 [] (.mv (.t 44))) .nil)))
theorem u_sRowOfCourse_3 (P : Program) (k : KT) (e : Env) (w : World) : vcK P t_sRowOfCourse_3 k e w = vcK P (.reg [1, 7, 30, 31, 32] (.c (.q 44 [] (.bin .add (.t 32) (.c (.int .i64 1)))) (.c (.q 32 [] (.mv (.t 44))) .nil))) k e w := rfl
def t_sRowOfCourse_4 : X := (.seq (.blk 1 (.seq (.reg [1, 7, 8, 9, 30, 31, 32] (.c (.q 34 [] (.mv (.t 32))) (.c (.q 35 [] (.ia 1 (.t 30) (.t 32))) (.c (.q 36 [] (.ld (.t 35))) (.c (.q 8 [] (.mv (.t 34))) (.c (.q 9 [] (.mv (.t 36))) .nil)))))) t_sRowOfCourse_2)) t_sRowOfCourse_3)
theorem u_sRowOfCourse_4 (P : Program) (k : KT) (e : Env) (w : World) : vcK P t_sRowOfCourse_4 k e w = vcK P (.seq (.blk 1 (.seq (.reg [1, 7, 8, 9, 30, 31, 32] (.c (.q 34 [] (.mv (.t 32))) (.c (.q 35 [] (.ia 1 (.t 30) (.t 32))) (.c (.q 36 [] (.ld (.t 35))) (.c (.q 8 [] (.mv (.t 34))) (.c (.q 9 [] (.mv (.t 36))) .nil)))))) t_sRowOfCourse_2)) t_sRowOfCourse_3) k e w := rfl
def t_sRowOfCourse_5 : X := (.seq (.cond (.t 33) .skip (.exit 0)) t_sRowOfCourse_4)
theorem u_sRowOfCourse_5 (P : Program) (k : KT) (e : Env) (w : World) : vcK P t_sRowOfCourse_5 k e w = vcK P (.seq (.cond (.t 33) .skip (.exit 0)) t_sRowOfCourse_4) k e w := rfl
def t_sRowOfCourse_6 : X := (.seq (.reg [1, 7, 30, 31, 32, 33] (.c (.q 33 [] (.bin .lss (.t 32) (.t 31))) .nil)) t_sRowOfCourse_5)
theorem u_sRowOfCourse_6 (P : Program) (k : KT) (e : Env) (w : World) : vcK P t_sRowOfCourse_6 k e w = vcK P (.seq (.reg [1, 7, 30, 31, 32, 33] (.c (.q 33 [] (.bin .lss (.t 32) (.t 31))) .nil)) t_sRowOfCourse_5) k e w := rfl
def t_sRowOfCourse_7 : X := (.blk 0 (.loop [32] [1, 7, 30, 31] t_sRowOfCourse_6))
theorem u_sRowOfCourse_7 (P : Program) (k : KT) (e : Env) (w : World) : vcK P t_sRowOfCourse_7 k e w = vcK P (.blk 0 (.loop [32] [1, 7, 30, 31] t_sRowOfCourse_6)) k e w := rfl
def t_sRowOfCourse_8 : X := (.cond (.t 48) (.seq (.reg [4, 5] (.c (.q 4 [] (.mv (.s []))) (.c (.q 5 [] (.mv (.c (.bool false)))) .nil))) .ret) .skip)
theorem u_sRowOfCourse_8 (P : Program) (k : KT) (e : Env) (w : World) : vcK P t_sRowOfCourse_8 k e w = vcK P (.cond (.t 48) (.seq (.reg [4, 5] (.c (.q 4 [] (.mv (.s []))) (.c (.q 5 [] (.mv (.c (.bool false)))) .nil))) .ret) .skip) k e w := rfl
def t_sRowOfCourse_9 : X := (.seq (.reg [4, 5] (.c (.q 49 [] (.mv (.t 7))) (.c (.e (some 50) [] (.b2s (.t 49))) (.c (.q 4 [] (.mv (.t 50))) (.c (.q 5 [] (.mv (.c (.bool true)))) .nil))))) .ret)
theorem u_sRowOfCourse_9 (P : Program) (k : KT) (e : Env) (w : World) : vcK P t_sRowOfCourse_9 k e w = vcK P (.seq (.reg [4, 5] (.c (.q 49 [] (.mv (.t 7))) (.c (.e (some 50) [] (.b2s (.t 49))) (.c (.q 4 [] (.mv (.t 50))) (.c (.q 5 [] (.mv (.c (.bool true)))) .nil))))) .ret) k e w := rfl
def t_sRowOfCourse_10 : X := (.seq (.seq (.reg [7, 48] (.c (.q 45 [] (.mv (.t 7))) (.c (.e (some 46) [] (.b2s (.t 45))) (.c (.e (some 47) [] (.call false 146 [(.t 46)])) (.c (.q 48 [] (.not (.t 47))) .nil))))) t_sRowOfCourse_8) t_sRowOfCourse_9)
theorem u_sRowOfCourse_10 (P : Program) (k : KT) (e : Env) (w : World) : vcK P t_sRowOfCourse_10 k e w = vcK P (.seq (.seq (.reg [7, 48] (.c (.q 45 [] (.mv (.t 7))) (.c (.e (some 46) [] (.b2s (.t 45))) (.c (.e (some 47) [] (.call false 146 [(.t 46)])) (.c (.q 48 [] (.not (.t 47))) .nil))))) t_sRowOfCourse_8) t_sRowOfCourse_9) k e w := rfl
def t_sRowOfCourse_11 : X := (.seq (.seq (.reg [1, 7, 30, 31, 32] (.c (.q 29 [] (.mv (.t 6))) (.c (.e (some 30) [] (.call false 251 [(.t 29)])) (.c (.q 31 [] (.lens (.t 30))) (.c (.q 32 [] (.mv (.c (.int .i64 0)))) .nil))))) t_sRowOfCourse_7) t_sRowOfCourse_10)
theorem u_sRowOfCourse_11 (P : Program) (k : KT) (e : Env) (w : World) : vcK P t_sRowOfCourse_11 k e w = vcK P (.seq (.seq (.reg [1, 7, 30, 31, 32] (.c (.q 29 [] (.mv (.t 6))) (.c (.e (some 30) [] (.call false 251 [(.t 29)])) (.c (.q 31 [] (.lens (.t 30))) (.c (.q 32 [] (.mv (.c (.int .i64 0)))) .nil))))) t_sRowOfCourse_7) t_sRowOfCourse_10) k e w := rfl
def t_sRowOfCourse_12 : X := (.seq (.reg [1, 6, 7] (.c (.q 24 [] (.mv (.t 7))) (.c (.q 25 [] (.mv (.t 0))) (.c (.q 26 [] (.bin .add (.c (.int .i64 48)) (.t 25))) (.c (.q 27 [] (.cvi .u8 (.t 26))) (.c (.q 28 [] (.ia 1 (.t 24) (.c (.int .i64 0)))) (.c (.e none [] (.st 1 (.t 28) (.t 27))) .nil))))))) t_sRowOfCourse_11)
theorem u_sRowOfCourse_12 (P : Program) (k : KT) (e : Env) (w : World) : vcK P t_sRowOfCourse_12 k e w = vcK P (.seq (.reg [1, 6, 7] (.c (.q 24 [] (.mv (.t 7))) (.c (.q 25 [] (.mv (.t 0))) (.c (.q 26 [] (.bin .add (.c (.int .i64 48)) (.t 25))) (.c (.q 27 [] (.cvi .u8 (.t 26))) (.c (.q 28 [] (.ia 1 (.t 24) (.c (.int .i64 0)))) (.c (.e none [] (.st 1 (.t 28) (.t 27))) .nil))))))) t_sRowOfCourse_11) k e w := rfl
def t_sRowOfCourse_13 : X := (.seq (.reg [0, 1, 6, 7] (.c (.q 22 [] (.mv (.t 6))) (.c (.e (some 23) [] (.msl 22 5 1 1 [(.int .u8 0)] (.t 22) (.t 22))) (.c (.q 7 [] (.mv (.t 23))) .nil)))) t_sRowOfCourse_12)
theorem u_sRowOfCourse_13 (P : Program) (k : KT) (e : Env) (w : World) : vcK P t_sRowOfCourse_13 k e w = vcK P (.seq (.reg [0, 1, 6, 7] (.c (.q 22 [] (.mv (.t 6))) (.c (.e (some 23) [] (.msl 22 5 1 1 [(.int .u8 0)] (.t 22) (.t 22))) (.c (.q 7 [] (.mv (.t 23))) .nil)))) t_sRowOfCourse_12) k e w := rfl
def t_sRowOfCourse_14 : X := (.seq (.seq (.reg [0, 1, 6, 21] (.c (.q 13 [] (.mv (.t 6))) (.c (.e (some 14) [] (.call false 208 [(.t 13), (.c (.int .i64 4)), (.c (.int .i64 8))])) (.c (.q 15 [] (.not (.t 14))) (.c (.q 16 [] (.mv (.t 15))) (.c (.q 17 [(16, false)] (.mv (.t 0))) (.c (.q 18 [(16, false)] (.mv (.t 6))) (.c (.e (some 19) [(16, false)] (.call false 208 [(.t 17), (.c (.int .i64 1)), (.t 18)])) (.c (.q 20 [(16, false)] (.not (.t 19))) (.c (.q 21 [] (.pick (.t 16) (.c (.bool true)) (.t 20))) .nil)))))))))) t_sRowOfCourse_1) t_sRowOfCourse_13)
theorem u_sRowOfCourse_14 (P : Program) (k : KT) (e : Env) (w : World) : vcK P t_sRowOfCourse_14 k e w = vcK P (.seq (.seq (.reg [0, 1, 6, 21] (.c (.q 13 [] (.mv (.t 6))) (.c (.e (some 14) [] (.call false 208 [(.t 13), (.c (.int .i64 4)), (.c (.int .i64 8))])) (.c (.q 15 [] (.not (.t 14))) (.c (.q 16 [] (.mv (.t 15))) (.c (.q 17 [(16, false)] (.mv (.t 0))) (.c (.q 18 [(16, false)] (.mv (.t 6))) (.c (.e (some 19) [(16, false)] (.call false 208 [(.t 17), (.c (.int .i64 1)), (.t 18)])) (.c (.q 20 [(16, false)] (.not (.t 19))) (.c (.q 21 [] (.pick (.t 16) (.c (.bool true)) (.t 20))) .nil)))))))))) t_sRowOfCourse_1) t_sRowOfCourse_13) k e w := rfl
def t_sRowOfCourse_15 : X := (.seq (.reg [0, 1, 6] (.c (.q 10 [] (.mv (.t 1))) (.c (.q 11 [] (.len (.t 10))) (.c (.q 12 [] (.bin .add (.t 11) (.c (.int .i64 1)))) (.c (.q 6 [] (.mv (.t 12))) .nil))))) t_sRowOfCourse_14)
theorem u_sRowOfCourse_15 (P : Program) (k : KT) (e : Env) (w : World) : vcK P t_sRowOfCourse_15 k e w = vcK P (.seq (.reg [0, 1, 6] (.c (.q 10 [] (.mv (.t 1))) (.c (.q 11 [] (.len (.t 10))) (.c (.q 12 [] (.bin .add (.t 11) (.c (.int .i64 1)))) (.c (.q 6 [] (.mv (.t 12))) .nil))))) t_sRowOfCourse_14) k e w := rfl
def x_sRowOfCourse : X := (.seq (.reg [0, 1] (.c (.q 4 [] (.mv (.s []))) (.c (.q 5 [] (.mv (.c (.bool false)))) .nil))) t_sRowOfCourse_15)
theorem u_sRowOfCourse (P : Program) (k : KT) (e : Env) (w : World) : vcK P x_sRowOfCourse k e w = vcK P (.seq (.reg [0, 1] (.c (.q 4 [] (.mv (.s []))) (.c (.q 5 [] (.mv (.c (.bool false)))) .nil))) t_sRowOfCourse_15) k e w := rfl
def r_sRowOfCourse : List XO := [(.mv (.t 4)), (.mv (.t 5))]
theorem c_sRowOfCourse : convF Try.prog [145, 147, 148, 149, 158, 205, 206, 232, 234, 247, 248, 256, 261, 283, 284, 299, 300, 307] Try.f116 [([0, 1], []), ([0, 1, 6], []), ([0, 1, 6, 21], []), ([4, 5], []), ([0, 1, 6, 7], []), ([1, 6, 7], []), ([1, 7, 30, 31, 32], []), ([32], [1, 7, 30, 31]), ([1, 7, 30, 31, 32, 33], []), ([1, 7, 8, 9, 30, 31, 32], []), ([1, 7, 30, 31, 32], []), ([1, 7, 30, 31, 32], []), ([7, 48], []), ([4, 5], []), ([4, 5], [])] = some (x_sRowOfCourse, r_sRowOfCourse) := by kernel_rfl
def us_sRowOfCourse := And.intro @u_sRowOfCourse (And.intro @u_sRowOfCourse_1 (And.intro @u_sRowOfCourse_2 (And.intro @u_sRowOfCourse_3 (And.intro @u_sRowOfCourse_4 (And.intro @u_sRowOfCourse_5 (And.intro @u_sRowOfCourse_6 (And.intro @u_sRowOfCourse_7 (And.intro @u_sRowOfCourse_8 (And.intro @u_sRowOfCourse_9 (And.intro @u_sRowOfCourse_10 (And.intro @u_sRowOfCourse_11 (And.intro @u_sRowOfCourse_12 (And.intro @u_sRowOfCourse_13 (And.intro @u_sRowOfCourse_14 @u_sRowOfCourse_15))))))))))))))
def t_iRowOfCourse_1 : X := (.cond (.t 21) (.seq (.reg [4, 5] (.c (.q 4 [] (.mv (.s []))) (.c (.q 5 [] (.mv (.c (.bool false)))) .nil))) .ret) .skip)
theorem u_iRowOfCourse_1 (P : Program) (k : KT) (e : Env) (w : World) : vcK P t_iRowOfCourse_1 k e w = vcK P (.cond (.t 21) (.seq (.reg [4, 5] (.c (.q 4 [] (.mv (.s []))) (.c (.q 5 [] (.mv (.c (.bool false)))) .nil))) .ret) .skip) k e w := rfl
def t_iRowOfCourse_2 : X := (.reg [1, 7, 30, 31, 32] (.c (.q 37 [] (.mv (.t 7))) (.c (.q 38 [] (.mv (.t 9))) (.c (.q 39 [] (.bin .sub (.t 38) (.c (.int .i64 1)))) (.c (.q 40 [] (.mv (.t 1))) (.c (.q 41 [] (.mv (.t 8))) (.c (.q 42 [] (.idx (.t 40) (.t 41))) (.c (.q 43 [] (.ia 1 (.t 37) (.t 39))) (.c (.e none [] (.st 1 (.t 43) (.t 42))) .nil)))))))))
theorem u_iRowOfCourse_2 (P : Program) (k : KT) (e : Env) (w : World) : vcK P t_iRowOfCourse_2 k e w = vcK P (.reg [1, 7, 30, 31, 32] (.c (.q 37 [] (.mv (.t 7))) (.c (.q 38 [] (.mv (.t 9))) (.c (.q 39 [] (.bin .sub (.t 38) (.c (.int .i64 1)))) (.c (.q 40 [] (.mv (.t 1))) (.c (.q 41 [] (.mv (.t 8))) (.c (.q 42 [] (.idx (.t 40) (.t 41))) (.c (.q 43 [] (.ia 1 (.t 37) (.t 39))) (.c (.e none [] (.st 1 (.t 43) (.t 42))) .nil))))))))) k e w := rfl
def t_iRowOfCourse_3 : X := (.reg [1, 7, 30, 31, 32] (.c (.q 44 [] (.bin .add (.t 32) (.c (.int .i64 1)))) (.c (.q 32 [] (.mv (.t 44))) .nil)))
theorem u_iRowOfCourse_3 (P : Program) (k : KT) (e : Env) (w : World) : vcK P t_iRowOfCourse_3 k e w = vcK P (.reg [1, 7, 30, 31, 32] (.c (.q 44 [] (.bin .add (.t 32) (.c (.int .i64 1)))) (.c (.q 32 [] (.mv (.t 44))) .nil))) k e w := rfl
def t_iRowOfCourse_4 : X := (.seq (.blk 1 (.seq (.reg [1, 7, 8, 9, 30, 31, 32] (.c (.q 34 [] (.mv (.t 32))) (.c (.q 35 [] (.ia 1 (.t 30) (.t 32))) (.c (.q 36 [] (.ld (.t 35))) (.c (.q 8 [] (.mv (.t 34))) (.c (.q 9 [] (.mv (.t 36))) .nil)))))) t_iRowOfCourse_2)) t_iRowOfCourse_3)
theorem u_iRowOfCourse_4 (P : Program) (k : KT) (e : Env) (w : World) : vcK P t_iRowOfCourse_4 k e w = vcK P (.seq (.blk 1 (.seq (.reg [1, 7, 8, 9, 30, 31, 32] (.c (.q 34 [] (.mv (.t 32))) (.c (.q 35 [] (.ia 1 (.t 30) (.t 32))) (.c (.q 36 [] (.ld (.t 35))) (.c (.q 8 [] (.mv (.t 34))) (.c (.q 9 [] (.mv (.t 36))) .nil)))))) t_iRowOfCourse_2)) t_iRowOfCourse_3) k e w := rfl
def t_iRowOfCourse_5 : X := (.seq (.cond (.t 33) .skip (.exit 0)) t_iRowOfCourse_4)
theorem u_iRowOfCourse_5 (P : Program) (k : KT) (e : Env) (w : World) : vcK P t_iRowOfCourse_5 k e w = vcK P (.seq (.cond (.t 33) .skip (.exit 0)) t_iRowOfCourse_4) k e w := rfl
def t_iRowOfCourse_6 : X := (.seq (.reg [1, 7, 30, 31, 32, 33] (.c (.q 33 [] (.bin .lss (.t 32) (.t 31))) .nil)) t_iRowOfCourse_5)
theorem u_iRowOfCourse_6 (P : Program) (k : KT) (e : Env) (w : World) : vcK P t_iRowOfCourse_6 k e w = vcK P (.seq (.reg [1, 7, 30, 31, 32, 33] (.c (.q 33 [] (.bin .lss (.t 32) (.t 31))) .nil)) t_iRowOfCourse_5) k e w := rfl
def t_iRowOfCourse_7 : X := (.blk 0 (.loop [32] [1, 7, 30, 31] t_iRowOfCourse_6))
theorem u_iRowOfCourse_7 (P : Program) (k : KT) (e : Env) (w : World) : vcK P t_iRowOfCourse_7 k e w = vcK P (.blk 0 (.loop [32] [1, 7, 30, 31] t_iRowOfCourse_6)) k e w := rfl
def t_iRowOfCourse_8 : X := (.cond (.t 48) (.seq (.reg [4, 5] (.c (.q 4 [] (.mv (.s []))) (.c (.q 5 [] (.mv (.c (.bool false)))) .nil))) .ret) .skip)
theorem u_iRowOfCourse_8 (P : Program) (k : KT) (e : Env) (w : World) : vcK P t_iRowOfCourse_8 k e w = vcK P (.cond (.t 48) (.seq (.reg [4, 5] (.c (.q 4 [] (.mv (.s []))) (.c (.q 5 [] (.mv (.c (.bool false)))) .nil))) .ret) .skip) k e w := rfl
def t_iRowOfCourse_9 : X := (.seq (.reg [4, 5] (.c (.q 49 [] (.mv (.t 7))) (.c (.e (some 50) [] (.b2s (.t 49))) (.c (.q 4 [] (.mv (.t 50))) (.c (.q 5 [] (.mv (.c (.bool true)))) .nil))))) .ret)
theorem u_iRowOfCourse_9 (P : Program) (k : KT) (e : Env) (w : World) : vcK P t_iRowOfCourse_9 k e w = vcK P (.seq (.reg [4, 5] (.c (.q 49 [] (.mv (.t 7))) (.c (.e (some 50) [] (.b2s (.t 49))) (.c (.q 4 [] (.mv (.t 50))) (.c (.q 5 [] (.mv (.c (.bool true)))) .nil))))) .ret) k e w := rfl
def t_iRowOfCourse_10 : X := (.seq (.seq (.reg [7, 48] (.c (.q 45 [] (.mv (.t 7))) (.c (.e (some 46) [] (.b2s (.t 45))) (.c (.e (some 47) [] (.call false 150 [(.t 46)])) (.c (.q 48 [] (.not (.t 47))) .nil))))) t_iRowOfCourse_8) t_iRowOfCourse_9)
theorem u_iRowOfCourse_10 (P : Program) (k : KT) (e : Env) (w : World) : vcK P t_iRowOfCourse_10 k e w = vcK P (.seq (.seq (.reg [7, 48] (.c (.q 45 [] (.mv (.t 7))) (.c (.e (some 46) [] (.b2s (.t 45))) (.c (.e (some 47) [] (.call false 150 [(.t 46)])) (.c (.q 48 [] (.not (.t 47))) .nil))))) t_iRowOfCourse_8) t_iRowOfCourse_9) k e w := rfl
def t_iRowOfCourse_11 : X := (.seq (.seq (.reg [1, 7, 30, 31, 32] (.c (.q 29 [] (.mv (.t 6))) (.c (.e (some 30) [] (.call false 250 [(.t 29)])) (.c (.q 31 [] (.lens (.t 30))) (.c (.q 32 [] (.mv (.c (.int .i64 0)))) .nil))))) t_iRowOfCourse_7) t_iRowOfCourse_10)
theorem u_iRowOfCourse_11 (P : Program) (k : KT) (e : Env) (w : World) : vcK P t_iRowOfCourse_11 k e w = vcK P (.seq (.seq (.reg [1, 7, 30, 31, 32] (.c (.q 29 [] (.mv (.t 6))) (.c (.e (some 30) [] (.call false 250 [(.t 29)])) (.c (.q 31 [] (.lens (.t 30))) (.c (.q 32 [] (.mv (.c (.int .i64 0)))) .nil))))) t_iRowOfCourse_7) t_iRowOfCourse_10) k e w := rfl
def t_iRowOfCourse_12 : X := (.seq (.reg [1, 6, 7] (.c (.q 24 [] (.mv (.t 7))) (.c (.q 25 [] (.mv (.t 0))) (.c (.q 26 [] (.bin .add (.c (.int .i64 48)) (.t 25))) (.c (.q 27 [] (.cvi .u8 (.t 26))) (.c (.q 28 [] (.ia 1 (.t 24) (.c (.int .i64 0)))) (.c (.e none [] (.st 1 (.t 28) (.t 27))) .nil))))))) t_iRowOfCourse_11)
theorem u_iRowOfCourse_12 (P : Program) (k : KT) (e : Env) (w : World) : vcK P t_iRowOfCourse_12 k e w = vcK P (.seq (.reg [1, 6, 7] (.c (.q 24 [] (.mv (.t 7))) (.c (.q 25 [] (.mv (.t 0))) (.c (.q 26 [] (.bin .add (.c (.int .i64 48)) (.t 25))) (.c (.q 27 [] (.cvi .u8 (.t 26))) (.c (.q 28 [] (.ia 1 (.t 24) (.c (.int .i64 0)))) (.c (.e none [] (.st 1 (.t 28) (.t 27))) .nil))))))) t_iRowOfCourse_11) k e w := rfl
def t_iRowOfCourse_13 : X := (.seq (.reg [0, 1, 6, 7] (.c (.q 22 [] (.mv (.t 6))) (.c (.e (some 23) [] (.msl 22 5 1 1 [(.int .u8 0)] (.t 22) (.t 22))) (.c (.q 7 [] (.mv (.t 23))) .nil)))) t_iRowOfCourse_12)
theorem u_iRowOfCourse_13 (P : Program) (k : KT) (e : Env) (w : World) : vcK P t_iRowOfCourse_13 k e w = vcK P (.seq (.reg [0, 1, 6, 7] (.c (.q 22 [] (.mv (.t 6))) (.c (.e (some 23) [] (.msl 22 5 1 1 [(.int .u8 0)] (.t 22) (.t 22))) (.c (.q 7 [] (.mv (.t 23))) .nil)))) t_iRowOfCourse_12) k e w := rfl
def t_iRowOfCourse_14 : X := (.seq (.seq (.reg [0, 1, 6, 21] (.c (.q 13 [] (.mv (.t 6))) (.c (.e (some 14) [] (.call false 249 [(.t 13), (.c (.int .i64 4)), (.c (.int .i64 8))])) (.c (.q 15 [] (.not (.t 14))) (.c (.q 16 [] (.mv (.t 15))) (.c (.q 17 [(16, false)] (.mv (.t 6))) (.c (.q 18 [(16, false)] (.mv (.t 0))) (.c (.e (some 19) [(16, false)] (.call false 226 [(.t 17), (.t 18)])) (.c (.q 20 [(16, false)] (.not (.t 19))) (.c (.q 21 [] (.pick (.t 16) (.c (.bool true)) (.t 20))) .nil)))))))))) t_iRowOfCourse_1) t_iRowOfCourse_13)
theorem u_iRowOfCourse_14 (P : Program) (k : KT) (e : Env) (w : World) : vcK P t_iRowOfCourse_14 k e w = vcK P (.seq (.seq (.reg [0, 1, 6, 21] (.c (.q 13 [] (.mv (.t 6))) (.c (.e (some 14) [] (.call false 249 [(.t 13), (.c (.int .i64 4)), (.c (.int .i64 8))])) (.c (.q 15 [] (.not (.t 14))) (.c (.q 16 [] (.mv (.t 15))) (.c (.q 17 [(16, false)] (.mv (.t 6))) (.c (.q 18 [(16, false)] (.mv (.t 0))) (.c (.e (some 19) [(16, false)] (.call false 226 [(.t 17), (.t 18)])) (.c (.q 20 [(16, false)] (.not (.t 19))) (.c (.q 21 [] (.pick (.t 16) (.c (.bool true)) (.t 20))) .nil)))))))))) t_iRowOfCourse_1) t_iRowOfCourse_13) k e w := rfl
def t_iRowOfCourse_15 : X := (.seq (.reg [0, 1, 6] (.c (.q 10 [] (.mv (.t 1))) (.c (.q 11 [] (.len (.t 10))) (.c (.q 12 [] (.bin .add (.t 11) (.c (.int .i64 1)))) (.c (.q 6 [] (.mv (.t 12))) .nil))))) t_iRowOfCourse_14)
theorem u_iRowOfCourse_15 (P : Program) (k : KT) (e : Env) (w : World) : vcK P t_iRowOfCourse_15 k e w = vcK P (.seq (.reg [0, 1, 6] (.c (.q 10 [] (.mv (.t 1))) (.c (.q 11 [] (.len (.t 10))) (.c (.q 12 [] (.bin .add (.t 11) (.c (.int .i64 1)))) (.c (.q 6 [] (.mv (.t 12))) .nil))))) t_iRowOfCourse_14) k e w := rfl
def x_iRowOfCourse : X := (.seq (.reg [0, 1] (.c (.q 4 [] (.mv (.s []))) (.c (.q 5 [] (.mv (.c (.bool false)))) .nil))) t_iRowOfCourse_15)
theorem u_iRowOfCourse (P : Program) (k : KT) (e : Env) (w : World) : vcK P x_iRowOfCourse k e w = vcK P (.seq (.reg [0, 1] (.c (.q 4 [] (.mv (.s []))) (.c (.q 5 [] (.mv (.c (.bool false)))) .nil))) t_iRowOfCourse_15) k e w := rfl
def r_iRowOfCourse : List XO := [(.mv (.t 4)), (.mv (.t 5))]
theorem c_iRowOfCourse : convF Try.prog [145, 147, 148, 149, 158, 205, 206, 232, 234, 247, 248, 256, 261, 283, 284, 299, 300, 307] Try.f115 [([0, 1], []), ([0, 1, 6], []), ([0, 1, 6, 21], []), ([4, 5], []), ([0, 1, 6, 7], []), ([1, 6, 7], []), ([1, 7, 30, 31, 32], []), ([32], [1, 7, 30, 31]), ([1, 7, 30, 31, 32, 33], []), ([1, 7, 8, 9, 30, 31, 32], []), ([1, 7, 30, 31, 32], []), ([1, 7, 30, 31, 32], []), ([7, 48], []), ([4, 5], []), ([4, 5], [])] = some (x_iRowOfCourse, r_iRowOfCourse) := by kernel_rfl
def us_iRowOfCourse := And.intro @u_iRowOfCourse (And.intro @u_iRowOfCourse_1 (And.intro @u_iRowOfCourse_2 (And.intro @u_iRowOfCourse_3 (And.intro @u_iRowOfCourse_4 (And.intro @u_iRowOfCourse_5 (And.intro @u_iRowOfCourse_6 (And.intro @u_iRowOfCourse_7 (And.intro @u_iRowOfCourse_8 (And.intro @u_iRowOfCourse_9 (And.intro @u_iRowOfCourse_10 (And.intro @u_iRowOfCourse_11 (And.intro @u_iRowOfCourse_12 (And.intro @u_iRowOfCourse_13 (And.intro @u_iRowOfCourse_14 @u_iRowOfCourse_15))))))))))))))
def t_iisBell_1 : X := (.seq (.reg [4] (.c (.q 5 [] (.mv (.t 1))) (.c (.q 6 [] (.bin .leq (.c (.int .i64 1)) (.t 5))) (.c (.q 7 [] (.mv (.t 6))) (.c (.q 8 [(7, true)] (.mv (.t 1))) (.c (.q 9 [(7, true)] (.mv (.t 0))) (.c (.q 10 [(7, true)] (.bin .leq (.t 8) (.t 9))) (.c (.q 11 [] (.pick (.t 7) (.t 10) (.c (.bool false)))) (.c (.q 4 [] (.mv (.t 11))) .nil))))))))) .ret)
theorem u_iisBell_1 (P : Program) (k : KT) (e : Env) (w : World) : vcK P t_iisBell_1 k e w = vcK P (.seq (.reg [4] (.c (.q 5 [] (.mv (.t 1))) (.c (.q 6 [] (.bin .leq (.c (.int .i64 1)) (.t 5))) (.c (.q 7 [] (.mv (.t 6))) (.c (.q 8 [(7, true)] (.mv (.t 1))) (.c (.q 9 [(7, true)] (.mv (.t 0))) (.c (.q 10 [(7, true)] (.bin .leq (.t 8) (.t 9))) (.c (.q 11 [] (.pick (.t 7) (.t 10) (.c (.bool false)))) (.c (.q 4 [] (.mv (.t 11))) .nil))))))))) .ret) k e w := rfl
def x_iisBell : X := (.seq (.reg [0, 1] (.c (.q 4 [] (.mv (.c (.bool false)))) .nil)) t_iisBell_1)
theorem u_iisBell (P : Program) (k : KT) (e : Env) (w : World) : vcK P x_iisBell k e w = vcK P (.seq (.reg [0, 1] (.c (.q 4 [] (.mv (.c (.bool false)))) .nil)) t_iisBell_1) k e w := rfl
def r_iisBell : List XO := [(.mv (.t 4))]
theorem c_iisBell : convF Try.prog [145, 147, 148, 149, 158, 205, 206, 232, 234, 247, 248, 256, 261, 283, 284, 299, 300, 307] Try.f226 [([0, 1], []), ([4], [])] = some (x_iisBell, r_iisBell) := by kernel_rfl
def us_iisBell := And.intro @u_iisBell @u_iisBell_1

/-- The coursing places of a stage. -/
def coursingL (n : Nat) : List Int := ((List.range (n + 1)).filter fun p => p % 2 = 0 ∧ 2 ≤ p).map Int.ofNat ++ (((List.range (n + 1)).filter fun p => p % 2 = 1 ∧ 3 ≤ p).map Int.ofNat).reverse
theorem cou_zero : ∀ n : Nat, (coursingL n).take 0 = [] := fun _ => List.take_zero
theorem cou_even : ∀ n < 9, ∀ k < n / 2, (coursingL n).take (k + 1) = (coursingL n).take k ++ [((2 * k + 2 : Nat) : Int)] := by decide
theorem cou_odd : ∀ n < 9, ∀ j < (n - 1) / 2, (coursingL n).take (n / 2 + (j + 1)) = (coursingL n).take (n / 2 + j) ++ [((n - (n + 1) % 2 - 2 * j : Nat) : Int)] := by decide
theorem cou_down : ∀ n < 9, ∀ j < n - 2, (coursingL n).take (n / 2 + ((n + 1) / 2 - (n - j) / 2)) = (coursingL n).take (n / 2 + ((n + 1) / 2 - (n + 1 - j) / 2)) ++ (if (n - j) % 2 = 1 then [((n - j : Nat) : Int)] else []) := by decide
theorem cou_all : ∀ n < 9, (coursingL n).take (n / 2 + (n - 1) / 2) = coursingL n := by decide
theorem cou_len : ∀ n < 9, (coursingL n).length = n - 1 := by decide
theorem cou_in : ∀ n < 9, ∀ k < (coursingL n).length, 2 ≤ (coursingL n).getD k 0 ∧ (coursingL n).getD k 0 ≤ n := by decide
theorem sl15Places_ok (n : Nat) (h0 : 0 < n) (hn : n < 9) (w : World) : Fn 251 [.int .i64 n] w (fun v w' => Own fI 1 3 w.heap.size w' v (coursingL n)) := by
  (refine callsV_of mix Try.func251 c_sl15Places ?_; simp only [↓vsd, vsn, gW, qd, qv, ev, pick, argE, List.map_cons, List.map_nil, Option.map_some, Option.map_none, zipE, List.cons_append, List.nil_append, ne_eq, eq_self, forall_const, implies_true, if_true, if_false, reduceIte, List.cons.injEq, reduceCtorEq, Nat.reduceEqDiff, List.length_nil, List.length_cons, Nat.reduceAdd, Nat.reduceLT, List.set_cons_zero, List.set_cons_succ, ↓us_sl15Places, r_sl15Places])
  refine m_upto (n / 2) (fun k vs w' => ∃ v, vs = [v, .int .i64 (2 * k + 2 : Nat)] ∧ Own fI 1 3 w.heap.size w' v ((coursingL n).take k) ∧ Ext w w') ⟨_, rfl, Own.nil fI_len, Ext.refl _⟩ ?_
  rintro k vs w' hk ⟨v, rfl, ho, hx⟩
  simp only [↓vsd, vsn, gW, qd, qv, ev, pick, argE, List.map_cons, List.map_nil, Option.map_some, Option.map_none, zipE, List.cons_append, List.nil_append, ne_eq, eq_self, forall_const, implies_true, if_true, if_false, reduceIte, List.cons.injEq, reduceCtorEq, Nat.reduceEqDiff, List.length_nil, List.length_cons, Nat.reduceAdd, Nat.reduceLT, List.set_cons_zero, List.set_cons_succ, ↓us_sl15Places, r_sl15Places]
  refine ⟨fun hle => ?_, fun hgt => ?_⟩
  · refine m_bsl (one_el rfl) ?_
    rintro b w1 hb hblk hx1 hs1
    simp only [↓vsd, vsn, gW, qd, qv, ev, pick, argE, List.map_cons, List.map_nil, Option.map_some, Option.map_none, zipE, List.cons_append, List.nil_append, ne_eq, eq_self, forall_const, implies_true, if_true, if_false, reduceIte, List.cons.injEq, reduceCtorEq, Nat.reduceEqDiff, List.length_nil, List.length_cons, Nat.reduceAdd, Nat.reduceLT, List.set_cons_zero, List.set_cons_succ, ↓us_sl15Places, r_sl15Places]
    refine m_app (ho.ext hx1) (Sq.one fI_len hblk rfl) fI_one (by decide) (by simp; omega) (by decide) (Nat.le_trans hx.size hx1.size) ?_
    rintro v2 w2 ho2 hg2
    have hx2 := (ho.ext hx1).grown (hx.trans hx1) (Nat.le_refl _) hg2
    simp only [↓vsd, vsn, gW, qd, qv, ev, pick, argE, List.map_cons, List.map_nil, Option.map_some, Option.map_none, zipE, List.cons_append, List.nil_append, ne_eq, eq_self, forall_const, implies_true, if_true, if_false, reduceIte, List.cons.injEq, reduceCtorEq, Nat.reduceEqDiff, List.length_nil, List.length_cons, Nat.reduceAdd, Nat.reduceLT, List.set_cons_zero, List.set_cons_succ, ↓us_sl15Places, r_sl15Places]
    exact ⟨inR_i64 (by omega), UpTo.next (by omega) ⟨v2, by simp; omega, ho2.to (cou_even n hn k (by omega)).symm, hx2⟩⟩
  · obtain rfl : k = n / 2 := by omega
    have main (p : Nat) (hp : p = n - (n + 1) % 2) : loopE Try.prog [3, 5] [] t_sl15Places_10 (KT.blk 2 (KT.seq t_sl15Places_11 (KT.done r_sl15Places fun v w' => Ext w w' ∧ Own fI 1 3 w.heap.size w' v (coursingL n)))) [v, .int .i64 p] [] w' := by
      refine m_upto ((n - 1) / 2) (fun j vs w' => ∃ v, vs = [v, .int .i64 (n - (n + 1) % 2 - 2 * j : Nat)] ∧ Own fI 1 3 w.heap.size w' v ((coursingL n).take (n / 2 + j)) ∧ Ext w w') ⟨v, by rw [hp]; rfl, ho, hx⟩ ?_
      rintro j vs w3 hj ⟨v3, rfl, ho3, hx3⟩
      simp only [↓vsd, vsn, gW, qd, qv, ev, pick, argE, List.map_cons, List.map_nil, Option.map_some, Option.map_none, zipE, List.cons_append, List.nil_append, ne_eq, eq_self, forall_const, implies_true, if_true, if_false, reduceIte, List.cons.injEq, reduceCtorEq, Nat.reduceEqDiff, List.length_nil, List.length_cons, Nat.reduceAdd, Nat.reduceLT, List.set_cons_zero, List.set_cons_succ, ↓us_sl15Places, r_sl15Places]
      refine ⟨fun hle => ?_, fun hgt => ⟨hx3, ?_⟩⟩
      · refine m_bsl (one_el rfl) ?_
        rintro b w4 hb hblk hx4 hs4
        simp only [↓vsd, vsn, gW, qd, qv, ev, pick, argE, List.map_cons, List.map_nil, Option.map_some, Option.map_none, zipE, List.cons_append, List.nil_append, ne_eq, eq_self, forall_const, implies_true, if_true, if_false, reduceIte, List.cons.injEq, reduceCtorEq, Nat.reduceEqDiff, List.length_nil, List.length_cons, Nat.reduceAdd, Nat.reduceLT, List.set_cons_zero, List.set_cons_succ, ↓us_sl15Places, r_sl15Places]
        refine m_app (ho3.ext hx4) (Sq.one fI_len hblk rfl) fI_one (by decide) (by simp; omega) (by decide) (Nat.le_trans hx3.size hx4.size) ?_
        rintro v5 w5 ho5 hg5
        have hx5 := (ho3.ext hx4).grown (hx3.trans hx4) (Nat.le_refl _) hg5
        simp only [↓vsd, vsn, gW, qd, qv, ev, pick, argE, List.map_cons, List.map_nil, Option.map_some, Option.map_none, zipE, List.cons_append, List.nil_append, ne_eq, eq_self, forall_const, implies_true, if_true, if_false, reduceIte, List.cons.injEq, reduceCtorEq, Nat.reduceEqDiff, List.length_nil, List.length_cons, Nat.reduceAdd, Nat.reduceLT, List.set_cons_zero, List.set_cons_succ, ↓us_sl15Places, r_sl15Places]
        exact ⟨inR_i64 (by omega), UpTo.next (by omega) ⟨v5, by simp; omega, ho5.to (cou_odd n hn j (by omega)).symm, hx5⟩⟩
      · obtain rfl : j = (n - 1) / 2 := by omega
        exact ho3.to (cou_all n hn)
    refine ⟨by decide, fun he => ?_, fun he => ?_⟩
    · have e : (n : Int) - 1 = (n - (n + 1) % 2 : Nat) := by omega
      rw [e]
      exact ⟨inR_i64 (by omega), main _ rfl⟩
    · exact main n (by omega)
theorem icoursing_ok (n : Nat) (hn : n < 9) (w : World) : Fn 250 [.int .i64 n] w (fun v w' => Own fI 1 3 w.heap.size w' v (coursingL n)) := by
  (refine callsV_of mix Try.func250 c_icoursing ?_; simp only [↓vsd, vsn, gW, qd, qv, ev, pick, argE, List.map_cons, List.map_nil, Option.map_some, Option.map_none, zipE, List.cons_append, List.nil_append, ne_eq, eq_self, forall_const, implies_true, if_true, if_false, reduceIte, List.cons.injEq, reduceCtorEq, Nat.reduceEqDiff, List.length_nil, List.length_cons, Nat.reduceAdd, Nat.reduceLT, List.set_cons_zero, List.set_cons_succ, ↓us_icoursing, r_icoursing])
  refine m_bsl (by simp) ?_
  rintro b w1 hb hblk hx1 hs1
  simp only [↓vsd, vsn, gW, qd, qv, ev, pick, argE, List.map_cons, List.map_nil, Option.map_some, Option.map_none, zipE, List.cons_append, List.nil_append, ne_eq, eq_self, forall_const, implies_true, if_true, if_false, reduceIte, List.cons.injEq, reduceCtorEq, Nat.reduceEqDiff, List.length_nil, List.length_cons, Nat.reduceAdd, Nat.reduceLT, List.set_cons_zero, List.set_cons_succ, ↓us_icoursing, r_icoursing]
  refine m_upto (n / 2) (fun k vs w' => ∃ v, vs = [v, .int .i64 (2 * k + 2 : Nat)] ∧ Own fI 1 3 w.heap.size w' v ((coursingL n).take k) ∧ Ext w w') ⟨_, rfl, Own.empty fI_len hblk (by omega), hx1⟩ ?_
  rintro k vs w' hk ⟨v, rfl, ho, hx⟩
  simp only [↓vsd, vsn, gW, qd, qv, ev, pick, argE, List.map_cons, List.map_nil, Option.map_some, Option.map_none, zipE, List.cons_append, List.nil_append, ne_eq, eq_self, forall_const, implies_true, if_true, if_false, reduceIte, List.cons.injEq, reduceCtorEq, Nat.reduceEqDiff, List.length_nil, List.length_cons, Nat.reduceAdd, Nat.reduceLT, List.set_cons_zero, List.set_cons_succ, ↓us_icoursing, r_icoursing]
  refine ⟨fun hle => ?_, fun hgt => ?_⟩
  · refine m_bsl (one_el rfl) ?_
    rintro b w1 hb hblk hx1 hs1
    simp only [↓vsd, vsn, gW, qd, qv, ev, pick, argE, List.map_cons, List.map_nil, Option.map_some, Option.map_none, zipE, List.cons_append, List.nil_append, ne_eq, eq_self, forall_const, implies_true, if_true, if_false, reduceIte, List.cons.injEq, reduceCtorEq, Nat.reduceEqDiff, List.length_nil, List.length_cons, Nat.reduceAdd, Nat.reduceLT, List.set_cons_zero, List.set_cons_succ, ↓us_icoursing, r_icoursing]
    refine m_app (ho.ext hx1) (Sq.one fI_len hblk rfl) fI_one (by decide) (by simp; omega) (by decide) (Nat.le_trans hx.size hx1.size) ?_
    rintro v2 w2 ho2 hg2
    have hx2 := (ho.ext hx1).grown (hx.trans hx1) (Nat.le_refl _) hg2
    simp only [↓vsd, vsn, gW, qd, qv, ev, pick, argE, List.map_cons, List.map_nil, Option.map_some, Option.map_none, zipE, List.cons_append, List.nil_append, ne_eq, eq_self, forall_const, implies_true, if_true, if_false, reduceIte, List.cons.injEq, reduceCtorEq, Nat.reduceEqDiff, List.length_nil, List.length_cons, Nat.reduceAdd, Nat.reduceLT, List.set_cons_zero, List.set_cons_succ, ↓us_icoursing, r_icoursing]
    exact ⟨inR_i64 (by omega), UpTo.next (by omega) ⟨v2, by simp; omega, ho2.to (cou_even n hn k (by omega)).symm, hx2⟩⟩
  · obtain rfl : k = n / 2 := by omega
    refine m_upto (n - 2) (fun j vs w' => ∃ v, vs = [v, .int .i64 (n - j : Nat)] ∧ Own fI 1 3 w.heap.size w' v ((coursingL n).take (n / 2 + ((n + 1) / 2 - (n + 1 - j) / 2))) ∧ Ext w w') ⟨v, rfl, ho.to (by simp), hx⟩ ?_
    rintro j vs w3 hj ⟨v3, rfl, ho3, hx3⟩
    have hd := cou_down n hn j
    simp only [↓vsd, vsn, gW, qd, qv, ev, pick, argE, List.map_cons, List.map_nil, Option.map_some, Option.map_none, zipE, List.cons_append, List.nil_append, ne_eq, eq_self, forall_const, implies_true, if_true, if_false, reduceIte, List.cons.injEq, reduceCtorEq, Nat.reduceEqDiff, List.length_nil, List.length_cons, Nat.reduceAdd, Nat.reduceLT, List.set_cons_zero, List.set_cons_succ, ↓us_icoursing, r_icoursing]
    refine ⟨fun hle => ⟨by decide, fun h1 => ?_, fun h0 => ?_⟩, fun hgt => ⟨hx3, ?_⟩⟩
    · refine m_bsl (one_el rfl) ?_
      rintro b w4 hb hblk hx4 hs4
      simp only [↓vsd, vsn, gW, qd, qv, ev, pick, argE, List.map_cons, List.map_nil, Option.map_some, Option.map_none, zipE, List.cons_append, List.nil_append, ne_eq, eq_self, forall_const, implies_true, if_true, if_false, reduceIte, List.cons.injEq, reduceCtorEq, Nat.reduceEqDiff, List.length_nil, List.length_cons, Nat.reduceAdd, Nat.reduceLT, List.set_cons_zero, List.set_cons_succ, ↓us_icoursing, r_icoursing]
      refine m_app (ho3.ext hx4) (Sq.one fI_len hblk rfl) fI_one (by decide) (by simp; omega) (by decide) (Nat.le_trans hx3.size hx4.size) ?_
      rintro v5 w5 ho5 hg5
      have hx5 := (ho3.ext hx4).grown (hx3.trans hx4) (Nat.le_refl _) hg5
      simp only [↓vsd, vsn, gW, qd, qv, ev, pick, argE, List.map_cons, List.map_nil, Option.map_some, Option.map_none, zipE, List.cons_append, List.nil_append, ne_eq, eq_self, forall_const, implies_true, if_true, if_false, reduceIte, List.cons.injEq, reduceCtorEq, Nat.reduceEqDiff, List.length_nil, List.length_cons, Nat.reduceAdd, Nat.reduceLT, List.set_cons_zero, List.set_cons_succ, ↓us_icoursing, r_icoursing]
      refine ⟨inR_i64 (by omega), UpTo.next (by omega) ⟨v5, by simp; omega, ho5.to ?_, hx5⟩⟩
      rw [show n + 1 - (j + 1) = n - j by omega, hd (by omega), if_pos (by omega)]
    · refine ⟨inR_i64 (by omega), UpTo.next (by omega) ⟨v3, by simp; omega, ho3.to ?_, hx3⟩⟩
      rw [show n + 1 - (j + 1) = n - j by omega, hd (by omega), if_neg (by omega), List.append_nil]
    · refine ho3.to ?_
      rw [show n / 2 + ((n + 1) / 2 - (n + 1 - j) / 2) = n / 2 + (n - 1) / 2 by omega]
      exact cou_all n hn
theorem sub_one (l : List UInt8) (i : Nat) (h : i < l.length) : (l.take (i + 1)).drop i = [l.getD i 0] := by
  rw [List.take_add_one, List.drop_append, List.getD_eq_getElem?_getD, List.getElem?_eq_getElem h]
  simp [Nat.min_eq_left (Nat.le_of_lt h)]
theorem take_map_succ {α β : Type} (f : α → β) (d : α) (l : List α) (k : Nat) (h : k < l.length) : (l.take (k + 1)).map f = (l.take k).map f ++ [f (l.getD k d)] := by
  rw [List.take_add_one, List.getElem?_eq_getElem h, List.getD_eq_getElem?_getD, List.getElem?_eq_getElem h, List.map_append]
  rfl
/-- The coursing order of a row. -/
def courseL (l : List UInt8) : List UInt8 := (coursingL l.length).map fun p => l.getD (p.toNat - 1) 0
theorem sl15Course_ok (l : List UInt8) (h0 : 0 < l.length) (hl : l.length < 9) (w : World) : Fn 179 [S l] w (fun v _ => v = S (courseL l)) := by
  (refine callsV_of mix Try.func179 c_sl15Course ?_; simp only [↓vsd, vsn, gW, qd, qv, ev, pick, argE, List.map_cons, List.map_nil, Option.map_some, Option.map_none, zipE, List.cons_append, List.nil_append, ne_eq, eq_self, forall_const, implies_true, if_true, if_false, reduceIte, List.cons.injEq, reduceCtorEq, Nat.reduceEqDiff, List.length_nil, List.length_cons, Nat.reduceAdd, Nat.reduceLT, List.set_cons_zero, List.set_cons_succ, ↓us_sl15Course, r_sl15Course])
  refine m_call (sl15Places_ok _ h0 hl _) ?_
  rintro v1 w1 hx1 ho1
  simp only [↓vsd, vsn, gW, qd, qv, ev, pick, argE, List.map_cons, List.map_nil, Option.map_some, Option.map_none, zipE, List.cons_append, List.nil_append, ne_eq, eq_self, forall_const, implies_true, if_true, if_false, reduceIte, List.cons.injEq, reduceCtorEq, Nat.reduceEqDiff, List.length_nil, List.length_cons, Nat.reduceAdd, Nat.reduceLT, List.set_cons_zero, List.set_cons_succ, ↓us_sl15Course, r_sl15Course, ho1.sq.facts]
  refine m_upto (coursingL l.length).length (fun k vs w' => vs = [S (((coursingL l.length).take k).map fun p => l.getD (p.toNat - 1) 0), .int .i64 k] ∧ Ext w1 w') ⟨rfl, Ext.refl _⟩ ?_
  rintro k vs w' hk ⟨rfl, hx⟩
  have ho := ho1.sq.ext hx
  have hcl := cou_len _ hl
  by_cases hlt : k < (coursingL l.length).length
  · have hp := cou_in _ hl k hlt
    obtain ⟨p, hpe⟩ : ∃ p : Nat, (coursingL l.length).getD k 0 = (p + 1 : Nat) := ⟨((coursingL l.length).getD k 0).toNat - 1, by omega⟩
    simp only [↓vsd, vsn, gW, qd, qv, ev, pick, argE, List.map_cons, List.map_nil, Option.map_some, Option.map_none, zipE, List.cons_append, List.nil_append, ne_eq, eq_self, forall_const, implies_true, if_true, if_false, reduceIte, List.cons.injEq, reduceCtorEq, Nat.reduceEqDiff, List.length_nil, List.length_cons, Nat.reduceAdd, Nat.reduceLT, List.set_cons_zero, List.set_cons_succ, ↓us_sl15Course, r_sl15Course, ho.facts, ho.at1 0 hlt, hpe]
    rw [hpe] at hp
    rw [show ((p + 1 : Nat) - 1 : Int) = (p : Nat) by omega, Nat.add_sub_cancel, sub_one l p (by omega)]
    refine ⟨fun _ => ⟨by omega, inR_i64 (by omega), by omega, by simp; omega, inR_i64 (by omega), UpTo.next hlt ⟨?_, hx⟩⟩, fun h => by omega⟩
    rw [take_map_succ _ 0 _ _ hlt, hpe]; rfl
  · obtain rfl : k = (coursingL l.length).length := by omega
    simp only [↓vsd, vsn, gW, qd, qv, ev, pick, argE, List.map_cons, List.map_nil, Option.map_some, Option.map_none, zipE, List.cons_append, List.nil_append, ne_eq, eq_self, forall_const, implies_true, if_true, if_false, reduceIte, List.cons.injEq, reduceCtorEq, Nat.reduceEqDiff, List.length_nil, List.length_cons, Nat.reduceAdd, Nat.reduceLT, List.set_cons_zero, List.set_cons_succ, ↓us_sl15Course, r_sl15Course, ho.facts]
    exact ⟨fun h => by omega, fun _ => ⟨hx1.trans hx, by rw [List.take_length]; rfl⟩⟩
theorem icourseOf_ok (l : List UInt8) (h0 : 0 < l.length) (hl : l.length < 9) (w : World) : Fn 185 [S l] w (fun v _ => v = S (courseL l)) := by
  (refine callsV_of mix Try.func185 c_icourseOf ?_; simp only [↓vsd, vsn, gW, qd, qv, ev, pick, argE, List.map_cons, List.map_nil, Option.map_some, Option.map_none, zipE, List.cons_append, List.nil_append, ne_eq, eq_self, forall_const, implies_true, if_true, if_false, reduceIte, List.cons.injEq, reduceCtorEq, Nat.reduceEqDiff, List.length_nil, List.length_cons, Nat.reduceAdd, Nat.reduceLT, List.set_cons_zero, List.set_cons_succ, ↓us_icourseOf, r_icourseOf])
  refine m_call (icoursing_ok _ hl _) ?_
  rintro v1 w1 hx1 ho1
  simp only [↓vsd, vsn, gW, qd, qv, ev, pick, argE, List.map_cons, List.map_nil, Option.map_some, Option.map_none, zipE, List.cons_append, List.nil_append, ne_eq, eq_self, forall_const, implies_true, if_true, if_false, reduceIte, List.cons.injEq, reduceCtorEq, Nat.reduceEqDiff, List.length_nil, List.length_cons, Nat.reduceAdd, Nat.reduceLT, List.set_cons_zero, List.set_cons_succ, ↓us_icourseOf, r_icourseOf, ho1.sq.facts]
  refine m_upto (coursingL l.length).length (fun k vs w' => vs = [S (((coursingL l.length).take k).map fun p => l.getD (p.toNat - 1) 0), .int .i64 k] ∧ Ext w1 w') ⟨rfl, Ext.refl _⟩ ?_
  rintro k vs w' hk ⟨rfl, hx⟩
  have ho := ho1.sq.ext hx
  have hcl := cou_len _ hl
  by_cases hlt : k < (coursingL l.length).length
  · have hp := cou_in _ hl k hlt
    obtain ⟨p, hpe⟩ : ∃ p : Nat, (coursingL l.length).getD k 0 = (p + 1 : Nat) := ⟨((coursingL l.length).getD k 0).toNat - 1, by omega⟩
    simp only [↓vsd, vsn, gW, qd, qv, ev, pick, argE, List.map_cons, List.map_nil, Option.map_some, Option.map_none, zipE, List.cons_append, List.nil_append, ne_eq, eq_self, forall_const, implies_true, if_true, if_false, reduceIte, List.cons.injEq, reduceCtorEq, Nat.reduceEqDiff, List.length_nil, List.length_cons, Nat.reduceAdd, Nat.reduceLT, List.set_cons_zero, List.set_cons_succ, ↓us_icourseOf, r_icourseOf, ho.facts, ho.at1 0 hlt, hpe]
    rw [hpe] at hp
    rw [show ((p + 1 : Nat) - 1 : Int) = (p : Nat) by omega, Nat.add_sub_cancel, sub_one l p (by omega)]
    refine ⟨fun _ => ⟨by omega, inR_i64 (by omega), by omega, by simp; omega, inR_i64 (by omega), UpTo.next hlt ⟨?_, hx⟩⟩, fun h => by omega⟩
    rw [take_map_succ _ 0 _ _ hlt, hpe]; rfl
  · obtain rfl : k = (coursingL l.length).length := by omega
    simp only [↓vsd, vsn, gW, qd, qv, ev, pick, argE, List.map_cons, List.map_nil, Option.map_some, Option.map_none, zipE, List.cons_append, List.nil_append, ne_eq, eq_self, forall_const, implies_true, if_true, if_false, reduceIte, List.cons.injEq, reduceCtorEq, Nat.reduceEqDiff, List.length_nil, List.length_cons, Nat.reduceAdd, Nat.reduceLT, List.set_cons_zero, List.set_cons_succ, ↓us_icourseOf, r_icourseOf, ho.facts]
    exact ⟨fun h => by omega, fun _ => ⟨hx1.trans hx, by rw [List.take_length]; rfl⟩⟩
def courseV (l : List UInt8) : Value := if IsRow l ∧ 4 ≤ l.length then .tuple ⟨[S (courseL l), .bool true]⟩ else .tuple ⟨[S [], .bool false]⟩
theorem sCourseOf_ok (l : List UInt8) (w : World) : Fn 113 [S l] w (fun v _ => v = courseV l) := by
  (refine callsV_of mix Try.func113 c_sCourseOf ?_; simp only [↓vsd, vsn, gW, qd, qv, ev, pick, argE, List.map_cons, List.map_nil, Option.map_some, Option.map_none, zipE, List.cons_append, List.nil_append, ne_eq, eq_self, forall_const, implies_true, if_true, if_false, reduceIte, List.cons.injEq, reduceCtorEq, Nat.reduceEqDiff, List.length_nil, List.length_cons, Nat.reduceAdd, Nat.reduceLT, List.set_cons_zero, List.set_cons_succ, ↓us_sCourseOf, r_sCourseOf])
  refine m_call (sl1Row_ok _ _) ?_
  rintro _ w1 hx1 rfl
  simp only [↓vsd, vsn, gW, qd, qv, ev, pick, argE, List.map_cons, List.map_nil, Option.map_some, Option.map_none, zipE, List.cons_append, List.nil_append, ne_eq, eq_self, forall_const, implies_true, if_true, if_false, reduceIte, List.cons.injEq, reduceCtorEq, Nat.reduceEqDiff, List.length_nil, List.length_cons, Nat.reduceAdd, Nat.reduceLT, List.set_cons_zero, List.set_cons_succ, ↓us_sCourseOf, r_sCourseOf]
  refine ⟨fun h => ⟨hx1, by rw [courseV, if_neg (by rintro ⟨h1, h2⟩; rcases h with h | h; exact h h1; omega)]⟩, fun h => ?_⟩
  refine m_call (sl15Course_ok l (by omega) (by have := h.1.1; omega) _) ?_
  rintro _ w2 hx2 rfl
  simp only [↓vsd, vsn, gW, qd, qv, ev, pick, argE, List.map_cons, List.map_nil, Option.map_some, Option.map_none, zipE, List.cons_append, List.nil_append, ne_eq, eq_self, forall_const, implies_true, if_true, if_false, reduceIte, List.cons.injEq, reduceCtorEq, Nat.reduceEqDiff, List.length_nil, List.length_cons, Nat.reduceAdd, Nat.reduceLT, List.set_cons_zero, List.set_cons_succ, ↓us_sCourseOf, r_sCourseOf]
  exact ⟨hx1.trans hx2, by rw [courseV, if_pos ⟨h.1, by omega⟩]⟩
theorem iCourseOf_ok (l : List UInt8) (w : World) : Fn 112 [S l] w (fun v _ => v = courseV l) := by
  (refine callsV_of mix Try.func112 c_iCourseOf ?_; simp only [↓vsd, vsn, gW, qd, qv, ev, pick, argE, List.map_cons, List.map_nil, Option.map_some, Option.map_none, zipE, List.cons_append, List.nil_append, ne_eq, eq_self, forall_const, implies_true, if_true, if_false, reduceIte, List.cons.injEq, reduceCtorEq, Nat.reduceEqDiff, List.length_nil, List.length_cons, Nat.reduceAdd, Nat.reduceLT, List.set_cons_zero, List.set_cons_succ, ↓us_iCourseOf, r_iCourseOf])
  refine m_call (iGoodRow_ok _ _) ?_
  rintro _ w1 hx1 rfl
  simp only [↓vsd, vsn, gW, qd, qv, ev, pick, argE, List.map_cons, List.map_nil, Option.map_some, Option.map_none, zipE, List.cons_append, List.nil_append, ne_eq, eq_self, forall_const, implies_true, if_true, if_false, reduceIte, List.cons.injEq, reduceCtorEq, Nat.reduceEqDiff, List.length_nil, List.length_cons, Nat.reduceAdd, Nat.reduceLT, List.set_cons_zero, List.set_cons_succ, ↓us_iCourseOf, r_iCourseOf]
  refine ⟨fun h => ⟨hx1, by rw [courseV, if_neg (by rintro ⟨h1, h2⟩; rcases h with h | h; exact h h1; omega)]⟩, fun h => ?_⟩
  refine m_call (icourseOf_ok l (by omega) (by have := h.1.1; omega) _) ?_
  rintro _ w2 hx2 rfl
  simp only [↓vsd, vsn, gW, qd, qv, ev, pick, argE, List.map_cons, List.map_nil, Option.map_some, Option.map_none, zipE, List.cons_append, List.nil_append, ne_eq, eq_self, forall_const, implies_true, if_true, if_false, reduceIte, List.cons.injEq, reduceCtorEq, Nat.reduceEqDiff, List.length_nil, List.length_cons, Nat.reduceAdd, Nat.reduceLT, List.set_cons_zero, List.set_cons_succ, ↓us_iCourseOf, r_iCourseOf]
  exact ⟨hx1.trans hx2, by rw [courseV, if_pos ⟨h.1, by omega⟩]⟩
theorem iisBell_ok (n b : Int) (w : World) : Fn 226 [.int .i64 n, .int .i64 b] w (fun v _ => v = .bool (decide (1 ≤ b) && decide (b ≤ n))) := by
  (refine callsV_of mix Try.func226 c_iisBell ?_; simp only [↓vsd, vsn, gW, qd, qv, ev, pick, argE, List.map_cons, List.map_nil, Option.map_some, Option.map_none, zipE, List.cons_append, List.nil_append, ne_eq, eq_self, forall_const, implies_true, if_true, if_false, reduceIte, List.cons.injEq, reduceCtorEq, Nat.reduceEqDiff, List.length_nil, List.length_cons, Nat.reduceAdd, Nat.reduceLT, List.set_cons_zero, List.set_cons_succ, ↓us_iisBell, r_iisBell])
  exact Ext.refl _
/-- The bells laid out after k of the course. -/
def rocM (n f : Nat) (l : List UInt8) : Nat → List UInt8
  | 0 => (List.replicate n 0).set 0 (UInt8.ofNat (48 + f))
  | k + 1 => (rocM n f l k).set ((coursingL n).getD k 0 - 1).toNat (l.getD k 0)
theorem rocM_len (n f : Nat) (l : List UInt8) (k : Nat) : (rocM n f l k).length = n := by
  induction k with
  | zero => simp [rocM]
  | succ k ih => simp [rocM, ih]
def rocV (f : Int) (l : List UInt8) : Value := if (4 ≤ l.length + 1 ∧ l.length + 1 ≤ 8) ∧ (1 ≤ f ∧ f ≤ l.length + 1) ∧ IsRow (rocM (l.length + 1) f.toNat l l.length) then .tuple ⟨[S (rocM (l.length + 1) f.toNat l l.length), .bool true]⟩ else .tuple ⟨[S [], .bool false]⟩
theorem sRowOfCourse_ok (f : Int) (l : List UInt8) (hl : l.length ≤ 1048576) (w : World) : Fn 116 [.int .i64 f, S l] w (fun v _ => v = rocV f l) := by
  (refine callsV_of mix Try.func116 c_sRowOfCourse ?_; simp only [↓vsd, vsn, gW, qd, qv, ev, pick, argE, List.map_cons, List.map_nil, Option.map_some, Option.map_none, zipE, List.cons_append, List.nil_append, ne_eq, eq_self, forall_const, implies_true, if_true, if_false, reduceIte, List.cons.injEq, reduceCtorEq, Nat.reduceEqDiff, List.length_nil, List.length_cons, Nat.reduceAdd, Nat.reduceLT, List.set_cons_zero, List.set_cons_succ, ↓us_sRowOfCourse, r_sRowOfCourse])
  refine ⟨inR_i64 (by omega), ?_⟩
  refine m_call (sl1In_ok _ _ _ _) ?_
  rintro _ w1 hx1 rfl
  simp only [↓vsd, vsn, gW, qd, qv, ev, pick, argE, List.map_cons, List.map_nil, Option.map_some, Option.map_none, zipE, List.cons_append, List.nil_append, ne_eq, eq_self, forall_const, implies_true, if_true, if_false, reduceIte, List.cons.injEq, reduceCtorEq, Nat.reduceEqDiff, List.length_nil, List.length_cons, Nat.reduceAdd, Nat.reduceLT, List.set_cons_zero, List.set_cons_succ, ↓us_sRowOfCourse, r_sRowOfCourse]
  refine ⟨fun h => m_call (sl1In_ok _ _ _ _) ?_, fun h => ⟨hx1, by rw [rocV, if_neg (fun hh => h ⟨by omega, by omega⟩)]⟩⟩
  rintro _ w2 hx2 rfl
  simp only [↓vsd, vsn, gW, qd, qv, ev, pick, argE, List.map_cons, List.map_nil, Option.map_some, Option.map_none, zipE, List.cons_append, List.nil_append, ne_eq, eq_self, forall_const, implies_true, if_true, if_false, reduceIte, List.cons.injEq, reduceCtorEq, Nat.reduceEqDiff, List.length_nil, List.length_cons, Nat.reduceAdd, Nat.reduceLT, List.set_cons_zero, List.set_cons_succ, ↓us_sRowOfCourse, r_sRowOfCourse]
  refine ⟨fun h2 => ⟨hx1.trans hx2, by rw [rocV, if_neg (by omega)]⟩, fun h2 => ?_⟩
  obtain ⟨f, rfl⟩ : ∃ k : Nat, f = k := ⟨f.toNat, by omega⟩
  rw [show (l.length : Int) + 1 = (l.length + 1 : Nat) by rfl]
  refine m_msl (f := fU) (B := w.heap.size) (0 : UInt8) fU_len rfl (by omega) (by decide) (by have := (hx1.trans hx2).size; omega) ?_
  rintro vb w3 ho3 hb3 hx3
  simp only [↓vsd, vsn, gW, qd, qv, ev, pick, argE, List.map_cons, List.map_nil, Option.map_some, Option.map_none, zipE, List.cons_append, List.nil_append, ne_eq, eq_self, forall_const, implies_true, if_true, if_false, reduceIte, List.cons.injEq, reduceCtorEq, Nat.reduceEqDiff, List.length_nil, List.length_cons, Nat.reduceAdd, Nat.reduceLT, List.set_cons_zero, List.set_cons_succ, ↓us_sRowOfCourse, r_sRowOfCourse, ho3.sq.facts]
  refine ⟨inR_i64 (by omega), inR_u8 (by omega), by simp, ?_⟩
  refine m_set1 0 (UInt8.ofNat (48 + f)) ho3 rfl (by simp) (by simp [fU, UInt8.toNat_ofNat', cells_int]; omega) fU_one ?_
  rintro w4 ho4 hg4 hs4
  have hB : w.heap.size ≤ w2.heap.size := (hx1.trans hx2).size
  have hx4 : Ext w w4 := ho3.grown ((hx1.trans hx2).trans hx3) (Nat.le_refl _) hg4
  simp only [↓vsd, vsn, gW, qd, qv, ev, pick, argE, List.map_cons, List.map_nil, Option.map_some, Option.map_none, zipE, List.cons_append, List.nil_append, ne_eq, eq_self, forall_const, implies_true, if_true, if_false, reduceIte, List.cons.injEq, reduceCtorEq, Nat.reduceEqDiff, List.length_nil, List.length_cons, Nat.reduceAdd, Nat.reduceLT, List.set_cons_zero, List.set_cons_succ, ↓us_sRowOfCourse, r_sRowOfCourse]
  refine m_call (sl15Places_ok (l.length + 1) (by omega) (by omega) _) ?_
  rintro vp w5 hx5 ho5
  simp only [↓vsd, vsn, gW, qd, qv, ev, pick, argE, List.map_cons, List.map_nil, Option.map_some, Option.map_none, zipE, List.cons_append, List.nil_append, ne_eq, eq_self, forall_const, implies_true, if_true, if_false, reduceIte, List.cons.injEq, reduceCtorEq, Nat.reduceEqDiff, List.length_nil, List.length_cons, Nat.reduceAdd, Nat.reduceLT, List.set_cons_zero, List.set_cons_succ, ↓us_sRowOfCourse, r_sRowOfCourse, ho5.sq.facts]
  have hcl := cou_len (l.length + 1) (by omega)
  have hvb := ho4.lt
  refine m_upto l.length (fun k vs w' => vs = [.int .i64 k] ∧ Own fU 1 5 w.heap.size w' vb (rocM (l.length + 1) f l k) ∧ Own fI 1 3 w4.heap.size w' vp (coursingL (l.length + 1)) ∧ Ext w w') ⟨rfl, ho4.ext hx5, ho5, hx4.trans hx5⟩ ?_
  rintro k vs w6 hk ⟨rfl, hob, hop, hx6⟩
  have hcl := cou_len (l.length + 1) (by omega)
  by_cases hlt : k < l.length
  · have hlt' : k < (coursingL (l.length + 1)).length := by omega
    have hp := cou_in _ (by omega) k hlt'
    simp only [↓vsd, vsn, gW, qd, qv, ev, pick, argE, List.map_cons, List.map_nil, Option.map_some, Option.map_none, zipE, List.cons_append, List.nil_append, ne_eq, eq_self, forall_const, implies_true, if_true, if_false, reduceIte, List.cons.injEq, reduceCtorEq, Nat.reduceEqDiff, List.length_nil, List.length_cons, Nat.reduceAdd, Nat.reduceLT, List.set_cons_zero, List.set_cons_succ, ↓us_sRowOfCourse, r_sRowOfCourse, hop.sq.facts, hob.sq.facts, hop.sq.at1 0 hlt', rocM_len]
    ((repeat' (first | (with_reducible refine And.intro ?_ ?_) | intro _)) <;> (try first | omega | ((with_reducible refine inR_i64 ?_) <;> omega) | ((with_reducible refine inR_u8 ?_) <;> omega) | with_reducible assumption | exact Ext.refl _))
    refine m_set1 ((coursingL (l.length + 1)).getD k 0 - 1).toNat (l.getD k 0) hob (by omega) (by rw [rocM_len]; omega) rfl fU_one ?_
    rintro w7 ho7 hg7 hs7
    simp only [↓vsd, vsn, gW, qd, qv, ev, pick, argE, List.map_cons, List.map_nil, Option.map_some, Option.map_none, zipE, List.cons_append, List.nil_append, ne_eq, eq_self, forall_const, implies_true, if_true, if_false, reduceIte, List.cons.injEq, reduceCtorEq, Nat.reduceEqDiff, List.length_nil, List.length_cons, Nat.reduceAdd, Nat.reduceLT, List.set_cons_zero, List.set_cons_succ, ↓us_sRowOfCourse, r_sRowOfCourse]
    exact ⟨inR_i64 (by omega), UpTo.next hlt ⟨rfl, ho7, hop.keep hg7 hvb, hob.grown hx6 (Nat.le_refl _) hg7⟩⟩
  · obtain rfl : k = l.length := by omega
    simp only [↓vsd, vsn, gW, qd, qv, ev, pick, argE, List.map_cons, List.map_nil, Option.map_some, Option.map_none, zipE, List.cons_append, List.nil_append, ne_eq, eq_self, forall_const, implies_true, if_true, if_false, reduceIte, List.cons.injEq, reduceCtorEq, Nat.reduceEqDiff, List.length_nil, List.length_cons, Nat.reduceAdd, Nat.reduceLT, List.set_cons_zero, List.set_cons_succ, ↓us_sRowOfCourse, r_sRowOfCourse, hop.sq.facts]
    refine ⟨fun h => by omega, fun _ => ?_⟩
    refine m_b2s hob.sq ?_
    simp only [↓vsd, vsn, gW, qd, qv, ev, pick, argE, List.map_cons, List.map_nil, Option.map_some, Option.map_none, zipE, List.cons_append, List.nil_append, ne_eq, eq_self, forall_const, implies_true, if_true, if_false, reduceIte, List.cons.injEq, reduceCtorEq, Nat.reduceEqDiff, List.length_nil, List.length_cons, Nat.reduceAdd, Nat.reduceLT, List.set_cons_zero, List.set_cons_succ, ↓us_sRowOfCourse, r_sRowOfCourse]
    refine m_call (sl1Row_ok _ _) ?_
    rintro _ w8 hx8 rfl
    simp only [↓vsd, vsn, gW, qd, qv, ev, pick, argE, List.map_cons, List.map_nil, Option.map_some, Option.map_none, zipE, List.cons_append, List.nil_append, ne_eq, eq_self, forall_const, implies_true, if_true, if_false, reduceIte, List.cons.injEq, reduceCtorEq, Nat.reduceEqDiff, List.length_nil, List.length_cons, Nat.reduceAdd, Nat.reduceLT, List.set_cons_zero, List.set_cons_succ, ↓us_sRowOfCourse, r_sRowOfCourse]
    refine ⟨fun hno => ⟨hx6.trans hx8, by rw [rocV, if_neg (fun hh => hno hh.2.2)]⟩, fun hyes => ?_⟩
    refine m_b2s (hob.ext hx8).sq ?_
    simp only [↓vsd, vsn, gW, qd, qv, ev, pick, argE, List.map_cons, List.map_nil, Option.map_some, Option.map_none, zipE, List.cons_append, List.nil_append, ne_eq, eq_self, forall_const, implies_true, if_true, if_false, reduceIte, List.cons.injEq, reduceCtorEq, Nat.reduceEqDiff, List.length_nil, List.length_cons, Nat.reduceAdd, Nat.reduceLT, List.set_cons_zero, List.set_cons_succ, ↓us_sRowOfCourse, r_sRowOfCourse]
    exact ⟨hx6.trans hx8, by rw [rocV, if_pos ⟨by omega, by omega, hyes⟩]; rfl⟩
theorem iRowOfCourse_ok (f : Int) (l : List UInt8) (hl : l.length ≤ 1048576) (w : World) : Fn 115 [.int .i64 f, S l] w (fun v _ => v = rocV f l) := by
  (refine callsV_of mix Try.func115 c_iRowOfCourse ?_; simp only [↓vsd, vsn, gW, qd, qv, ev, pick, argE, List.map_cons, List.map_nil, Option.map_some, Option.map_none, zipE, List.cons_append, List.nil_append, ne_eq, eq_self, forall_const, implies_true, if_true, if_false, reduceIte, List.cons.injEq, reduceCtorEq, Nat.reduceEqDiff, List.length_nil, List.length_cons, Nat.reduceAdd, Nat.reduceLT, List.set_cons_zero, List.set_cons_succ, ↓us_iRowOfCourse, r_iRowOfCourse])
  refine ⟨inR_i64 (by omega), ?_⟩
  refine m_call (iwithin_ok _ _ _ _) ?_
  rintro _ w1 hx1 rfl
  simp only [↓vsd, vsn, gW, qd, qv, ev, pick, argE, List.map_cons, List.map_nil, Option.map_some, Option.map_none, zipE, List.cons_append, List.nil_append, ne_eq, eq_self, forall_const, implies_true, if_true, if_false, reduceIte, List.cons.injEq, reduceCtorEq, Nat.reduceEqDiff, List.length_nil, List.length_cons, Nat.reduceAdd, Nat.reduceLT, List.set_cons_zero, List.set_cons_succ, ↓us_iRowOfCourse, r_iRowOfCourse]
  refine ⟨fun h => m_call (iisBell_ok _ _ _) ?_, fun h => ⟨hx1, by rw [rocV, if_neg (fun hh => h ⟨by omega, by omega⟩)]⟩⟩
  rintro _ w2 hx2 rfl
  simp only [↓vsd, vsn, gW, qd, qv, ev, pick, argE, List.map_cons, List.map_nil, Option.map_some, Option.map_none, zipE, List.cons_append, List.nil_append, ne_eq, eq_self, forall_const, implies_true, if_true, if_false, reduceIte, List.cons.injEq, reduceCtorEq, Nat.reduceEqDiff, List.length_nil, List.length_cons, Nat.reduceAdd, Nat.reduceLT, List.set_cons_zero, List.set_cons_succ, ↓us_iRowOfCourse, r_iRowOfCourse]
  refine ⟨fun h2 => ⟨hx1.trans hx2, by rw [rocV, if_neg (by omega)]⟩, fun h2 => ?_⟩
  obtain ⟨f, rfl⟩ : ∃ k : Nat, f = k := ⟨f.toNat, by omega⟩
  rw [show (l.length : Int) + 1 = (l.length + 1 : Nat) by rfl]
  refine m_msl (f := fU) (B := w.heap.size) (0 : UInt8) fU_len rfl (by omega) (by decide) (by have := (hx1.trans hx2).size; omega) ?_
  rintro vb w3 ho3 hb3 hx3
  simp only [↓vsd, vsn, gW, qd, qv, ev, pick, argE, List.map_cons, List.map_nil, Option.map_some, Option.map_none, zipE, List.cons_append, List.nil_append, ne_eq, eq_self, forall_const, implies_true, if_true, if_false, reduceIte, List.cons.injEq, reduceCtorEq, Nat.reduceEqDiff, List.length_nil, List.length_cons, Nat.reduceAdd, Nat.reduceLT, List.set_cons_zero, List.set_cons_succ, ↓us_iRowOfCourse, r_iRowOfCourse, ho3.sq.facts]
  refine ⟨inR_i64 (by omega), inR_u8 (by omega), by simp, ?_⟩
  refine m_set1 0 (UInt8.ofNat (48 + f)) ho3 rfl (by simp) (by simp [fU, UInt8.toNat_ofNat', cells_int]; omega) fU_one ?_
  rintro w4 ho4 hg4 hs4
  have hx4 : Ext w w4 := ho3.grown ((hx1.trans hx2).trans hx3) (Nat.le_refl _) hg4
  simp only [↓vsd, vsn, gW, qd, qv, ev, pick, argE, List.map_cons, List.map_nil, Option.map_some, Option.map_none, zipE, List.cons_append, List.nil_append, ne_eq, eq_self, forall_const, implies_true, if_true, if_false, reduceIte, List.cons.injEq, reduceCtorEq, Nat.reduceEqDiff, List.length_nil, List.length_cons, Nat.reduceAdd, Nat.reduceLT, List.set_cons_zero, List.set_cons_succ, ↓us_iRowOfCourse, r_iRowOfCourse]
  refine m_call (icoursing_ok (l.length + 1) (by omega) _) ?_
  rintro vp w5 hx5 ho5
  simp only [↓vsd, vsn, gW, qd, qv, ev, pick, argE, List.map_cons, List.map_nil, Option.map_some, Option.map_none, zipE, List.cons_append, List.nil_append, ne_eq, eq_self, forall_const, implies_true, if_true, if_false, reduceIte, List.cons.injEq, reduceCtorEq, Nat.reduceEqDiff, List.length_nil, List.length_cons, Nat.reduceAdd, Nat.reduceLT, List.set_cons_zero, List.set_cons_succ, ↓us_iRowOfCourse, r_iRowOfCourse, ho5.sq.facts]
  have hcl := cou_len (l.length + 1) (by omega)
  have hvb := ho4.lt
  refine m_upto l.length (fun k vs w' => vs = [.int .i64 k] ∧ Own fU 1 5 w.heap.size w' vb (rocM (l.length + 1) f l k) ∧ Own fI 1 3 w4.heap.size w' vp (coursingL (l.length + 1)) ∧ Ext w w') ⟨rfl, ho4.ext hx5, ho5, hx4.trans hx5⟩ ?_
  rintro k vs w6 hk ⟨rfl, hob, hop, hx6⟩
  by_cases hlt : k < l.length
  · have hlt' : k < (coursingL (l.length + 1)).length := by omega
    have hp := cou_in _ (by omega) k hlt'
    simp only [↓vsd, vsn, gW, qd, qv, ev, pick, argE, List.map_cons, List.map_nil, Option.map_some, Option.map_none, zipE, List.cons_append, List.nil_append, ne_eq, eq_self, forall_const, implies_true, if_true, if_false, reduceIte, List.cons.injEq, reduceCtorEq, Nat.reduceEqDiff, List.length_nil, List.length_cons, Nat.reduceAdd, Nat.reduceLT, List.set_cons_zero, List.set_cons_succ, ↓us_iRowOfCourse, r_iRowOfCourse, hop.sq.facts, hob.sq.facts, hop.sq.at1 0 hlt', rocM_len]
    ((repeat' (first | (with_reducible refine And.intro ?_ ?_) | intro _)) <;> (try first | omega | ((with_reducible refine inR_i64 ?_) <;> omega) | ((with_reducible refine inR_u8 ?_) <;> omega) | with_reducible assumption | exact Ext.refl _))
    refine m_set1 ((coursingL (l.length + 1)).getD k 0 - 1).toNat (l.getD k 0) hob (by omega) (by rw [rocM_len]; omega) rfl fU_one ?_
    rintro w7 ho7 hg7 hs7
    simp only [↓vsd, vsn, gW, qd, qv, ev, pick, argE, List.map_cons, List.map_nil, Option.map_some, Option.map_none, zipE, List.cons_append, List.nil_append, ne_eq, eq_self, forall_const, implies_true, if_true, if_false, reduceIte, List.cons.injEq, reduceCtorEq, Nat.reduceEqDiff, List.length_nil, List.length_cons, Nat.reduceAdd, Nat.reduceLT, List.set_cons_zero, List.set_cons_succ, ↓us_iRowOfCourse, r_iRowOfCourse]
    exact ⟨inR_i64 (by omega), UpTo.next hlt ⟨rfl, ho7, hop.keep hg7 hvb, hob.grown hx6 (Nat.le_refl _) hg7⟩⟩
  · obtain rfl : k = l.length := by omega
    simp only [↓vsd, vsn, gW, qd, qv, ev, pick, argE, List.map_cons, List.map_nil, Option.map_some, Option.map_none, zipE, List.cons_append, List.nil_append, ne_eq, eq_self, forall_const, implies_true, if_true, if_false, reduceIte, List.cons.injEq, reduceCtorEq, Nat.reduceEqDiff, List.length_nil, List.length_cons, Nat.reduceAdd, Nat.reduceLT, List.set_cons_zero, List.set_cons_succ, ↓us_iRowOfCourse, r_iRowOfCourse, hop.sq.facts]
    refine ⟨fun h => by omega, fun _ => ?_⟩
    refine m_b2s hob.sq ?_
    simp only [↓vsd, vsn, gW, qd, qv, ev, pick, argE, List.map_cons, List.map_nil, Option.map_some, Option.map_none, zipE, List.cons_append, List.nil_append, ne_eq, eq_self, forall_const, implies_true, if_true, if_false, reduceIte, List.cons.injEq, reduceCtorEq, Nat.reduceEqDiff, List.length_nil, List.length_cons, Nat.reduceAdd, Nat.reduceLT, List.set_cons_zero, List.set_cons_succ, ↓us_iRowOfCourse, r_iRowOfCourse]
    refine m_call (iGoodRow_ok _ _) ?_
    rintro _ w8 hx8 rfl
    simp only [↓vsd, vsn, gW, qd, qv, ev, pick, argE, List.map_cons, List.map_nil, Option.map_some, Option.map_none, zipE, List.cons_append, List.nil_append, ne_eq, eq_self, forall_const, implies_true, if_true, if_false, reduceIte, List.cons.injEq, reduceCtorEq, Nat.reduceEqDiff, List.length_nil, List.length_cons, Nat.reduceAdd, Nat.reduceLT, List.set_cons_zero, List.set_cons_succ, ↓us_iRowOfCourse, r_iRowOfCourse]
    refine ⟨fun hno => ⟨hx6.trans hx8, by rw [rocV, if_neg (fun hh => hno hh.2.2)]⟩, fun hyes => ?_⟩
    refine m_b2s (hob.ext hx8).sq ?_
    simp only [↓vsd, vsn, gW, qd, qv, ev, pick, argE, List.map_cons, List.map_nil, Option.map_some, Option.map_none, zipE, List.cons_append, List.nil_append, ne_eq, eq_self, forall_const, implies_true, if_true, if_false, reduceIte, List.cons.injEq, reduceCtorEq, Nat.reduceEqDiff, List.length_nil, List.length_cons, Nat.reduceAdd, Nat.reduceLT, List.set_cons_zero, List.set_cons_succ, ↓us_iRowOfCourse, r_iRowOfCourse]
    exact ⟨hx6.trans hx8, by rw [rocV, if_pos ⟨by omega, by omega, hyes⟩]; rfl⟩
end Go.Proofs.Ytjcnmobdlkmaeaa
