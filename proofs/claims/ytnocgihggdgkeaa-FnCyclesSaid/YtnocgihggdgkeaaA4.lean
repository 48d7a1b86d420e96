/-
  Coursing orders: the places; CourseOf and RowOfCourse; the laws' calls.
  Conditions: none.
-/
import Derived.Test.YtnocgihggdgkeaaA1
set_option linter.unusedSimpArgs false
set_option linter.unusedVariables false
set_option linter.defProp false
namespace Go.Proofs.Ytnocgihggdgkeaa
open Go Go.RowKit
def t_sl15Places_1 : X := (.cond (.t 8) .skip (.exit 0))
theorem u_sl15Places_1 (P : Program) (k : KT) (e : Env) (w : World) : vcK P t_sl15Places_1 k e w = vcK P (.cond (.t 8) .skip (.exit 0)) k e w := rfl
def t_sl15Places_2 : X := (.reg [0, 3, 4] (.c (.q 9 [] (.mv (.t 4))) (.c (.q 10 [] (.bin .add (.t 9) (.c (.int .i64 2)))) (.c (.q 4 [] (.mv (.t 10))) .nil))))
theorem u_sl15Places_2 (P : Program) (k : KT) (e : Env) (w : World) : vcK P t_sl15Places_2 k e w = vcK P (.reg [0, 3, 4] (.c (.q 9 [] (.mv (.t 4))) (.c (.q 10 [] (.bin .add (.t 9) (.c (.int .i64 2)))) (.c (.q 4 [] (.mv (.t 10))) .nil)))) k e w := rfl
def t_sl15Places_3 : X := (.seq (.blk 1 (.reg [0, 3, 4] (.c (.q 11 [] (.mv (.t 3))) (.c (.q 12 [] (.mv (.t 4))) (.c (.e (some 13) [] (.bsl 3 1 [(.t 12)])) (.c (.e (some 14) [] (.app 50 3 1 8 [(.int .i64 0)] 50 (.t 11) (.t 13))) (.c (.q 3 [] (.mv (.t 14))) .nil))))))) t_sl15Places_2)
theorem u_sl15Places_3 (P : Program) (k : KT) (e : Env) (w : World) : vcK P t_sl15Places_3 k e w = vcK P (.seq (.blk 1 (.reg [0, 3, 4] (.c (.q 11 [] (.mv (.t 3))) (.c (.q 12 [] (.mv (.t 4))) (.c (.e (some 13) [] (.bsl 3 1 [(.t 12)])) (.c (.e (some 14) [] (.app 50 3 1 8 [(.int .i64 0)] 50 (.t 11) (.t 13))) (.c (.q 3 [] (.mv (.t 14))) .nil))))))) t_sl15Places_2) k e w := rfl
def t_sl15Places_4 : X := (.seq (.seq (.reg [0, 3, 4, 8] (.c (.q 6 [] (.mv (.t 4))) (.c (.q 7 [] (.mv (.t 0))) (.c (.q 8 [] (.bin .leq (.t 6) (.t 7))) .nil)))) t_sl15Places_1) t_sl15Places_3)
theorem u_sl15Places_4 (P : Program) (k : KT) (e : Env) (w : World) : vcK P t_sl15Places_4 k e w = vcK P (.seq (.seq (.reg [0, 3, 4, 8] (.c (.q 6 [] (.mv (.t 4))) (.c (.q 7 [] (.mv (.t 0))) (.c (.q 8 [] (.bin .leq (.t 6) (.t 7))) .nil)))) t_sl15Places_1) t_sl15Places_3) k e w := rfl
def t_sl15Places_5 : X := (.blk 0 (.loop [3, 4] [0] t_sl15Places_4))
theorem u_sl15Places_5 (P : Program) (k : KT) (e : Env) (w : World) : vcK P t_sl15Places_5 k e w = vcK P (.blk 0 (.loop [3, 4] [0] t_sl15Places_4)) k e w := rfl
def t_sl15Places_6 : X := (.cond (.t 18) (.reg [3, 5] (.c (.q 19 [] (.mv (.t 0))) (.c (.q 20 [] (.bin .sub (.t 19) (.c (.int .i64 1)))) (.c (.q 5 [] (.mv (.t 20))) .nil)))) .skip)
theorem u_sl15Places_6 (P : Program) (k : KT) (e : Env) (w : World) : vcK P t_sl15Places_6 k e w = vcK P (.cond (.t 18) (.reg [3, 5] (.c (.q 19 [] (.mv (.t 0))) (.c (.q 20 [] (.bin .sub (.t 19) (.c (.int .i64 1)))) (.c (.q 5 [] (.mv (.t 20))) .nil)))) .skip) k e w := rfl
def t_sl15Places_7 : X := (.cond (.t 22) .skip (.exit 2))
theorem u_sl15Places_7 (P : Program) (k : KT) (e : Env) (w : World) : vcK P t_sl15Places_7 k e w = vcK P (.cond (.t 22) .skip (.exit 2)) k e w := rfl
def t_sl15Places_8 : X := (.reg [3, 5] (.c (.q 23 [] (.mv (.t 5))) (.c (.q 24 [] (.bin .sub (.t 23) (.c (.int .i64 2)))) (.c (.q 5 [] (.mv (.t 24))) .nil))))
theorem u_sl15Places_8 (P : Program) (k : KT) (e : Env) (w : World) : vcK P t_sl15Places_8 k e w = vcK P (.reg [3, 5] (.c (.q 23 [] (.mv (.t 5))) (.c (.q 24 [] (.bin .sub (.t 23) (.c (.int .i64 2)))) (.c (.q 5 [] (.mv (.t 24))) .nil)))) k e w := rfl
def t_sl15Places_9 : X := (.seq (.blk 3 (.reg [3, 5] (.c (.q 25 [] (.mv (.t 3))) (.c (.q 26 [] (.mv (.t 5))) (.c (.e (some 27) [] (.bsl 3 1 [(.t 26)])) (.c (.e (some 28) [] (.app 50 3 1 8 [(.int .i64 0)] 50 (.t 25) (.t 27))) (.c (.q 3 [] (.mv (.t 28))) .nil))))))) t_sl15Places_8)
theorem u_sl15Places_9 (P : Program) (k : KT) (e : Env) (w : World) : vcK P t_sl15Places_9 k e w = vcK P (.seq (.blk 3 (.reg [3, 5] (.c (.q 25 [] (.mv (.t 3))) (.c (.q 26 [] (.mv (.t 5))) (.c (.e (some 27) [] (.bsl 3 1 [(.t 26)])) (.c (.e (some 28) [] (.app 50 3 1 8 [(.int .i64 0)] 50 (.t 25) (.t 27))) (.c (.q 3 [] (.mv (.t 28))) .nil))))))) t_sl15Places_8) k e w := rfl
def t_sl15Places_10 : X := (.seq (.seq (.reg [3, 5, 22] (.c (.q 21 [] (.mv (.t 5))) (.c (.q 22 [] (.bin .geq (.t 21) (.c (.int .i64 3)))) .nil))) t_sl15Places_7) t_sl15Places_9)
theorem u_sl15Places_10 (P : Program) (k : KT) (e : Env) (w : World) : vcK P t_sl15Places_10 k e w = vcK P (.seq (.seq (.reg [3, 5, 22] (.c (.q 21 [] (.mv (.t 5))) (.c (.q 22 [] (.bin .geq (.t 21) (.c (.int .i64 3)))) .nil))) t_sl15Places_7) t_sl15Places_9) k e w := rfl
def t_sl15Places_11 : X := (.seq (.reg [2] (.c (.q 29 [] (.mv (.t 3))) (.c (.q 2 [] (.mv (.t 29))) .nil))) .ret)
theorem u_sl15Places_11 (P : Program) (k : KT) (e : Env) (w : World) : vcK P t_sl15Places_11 k e w = vcK P (.seq (.reg [2] (.c (.q 29 [] (.mv (.t 3))) (.c (.q 2 [] (.mv (.t 29))) .nil))) .ret) k e w := rfl
def t_sl15Places_12 : X := (.seq (.blk 2 (.loop [3, 5] [] t_sl15Places_10)) t_sl15Places_11)
theorem u_sl15Places_12 (P : Program) (k : KT) (e : Env) (w : World) : vcK P t_sl15Places_12 k e w = vcK P (.seq (.blk 2 (.loop [3, 5] [] t_sl15Places_10)) t_sl15Places_11) k e w := rfl
def t_sl15Places_13 : X := (.seq (.seq (.reg [0, 3, 5, 18] (.c (.q 16 [] (.mv (.t 0))) (.c (.q 17 [] (.bin .rem (.t 16) (.c (.int .i64 2)))) (.c (.q 18 [] (.bin .eql (.t 17) (.c (.int .i64 0)))) .nil)))) t_sl15Places_6) t_sl15Places_12)
theorem u_sl15Places_13 (P : Program) (k : KT) (e : Env) (w : World) : vcK P t_sl15Places_13 k e w = vcK P (.seq (.seq (.reg [0, 3, 5, 18] (.c (.q 16 [] (.mv (.t 0))) (.c (.q 17 [] (.bin .rem (.t 16) (.c (.int .i64 2)))) (.c (.q 18 [] (.bin .eql (.t 17) (.c (.int .i64 0)))) .nil)))) t_sl15Places_6) t_sl15Places_12) k e w := rfl
def t_sl15Places_14 : X := (.seq (.reg [0, 3, 5] (.c (.q 15 [] (.mv (.t 0))) (.c (.q 5 [] (.mv (.t 15))) .nil))) t_sl15Places_13)
theorem u_sl15Places_14 (P : Program) (k : KT) (e : Env) (w : World) : vcK P t_sl15Places_14 k e w = vcK P (.seq (.reg [0, 3, 5] (.c (.q 15 [] (.mv (.t 0))) (.c (.q 5 [] (.mv (.t 15))) .nil))) t_sl15Places_13) k e w := rfl
def t_sl15Places_15 : X := (.seq (.seq (.reg [0, 3, 4] (.c (.q 4 [] (.mv (.c (.int .i64 2)))) .nil)) t_sl15Places_5) t_sl15Places_14)
theorem u_sl15Places_15 (P : Program) (k : KT) (e : Env) (w : World) : vcK P t_sl15Places_15 k e w = vcK P (.seq (.seq (.reg [0, 3, 4] (.c (.q 4 [] (.mv (.c (.int .i64 2)))) .nil)) t_sl15Places_5) t_sl15Places_14) k e w := rfl
def t_sl15Places_16 : X := (.seq (.reg [0, 3] (.c (.q 3 [] (.mv (.c (.slice none 0 0)))) .nil)) t_sl15Places_15)
theorem u_sl15Places_16 (P : Program) (k : KT) (e : Env) (w : World) : vcK P t_sl15Places_16 k e w = vcK P (.seq (.reg [0, 3] (.c (.q 3 [] (.mv (.c (.slice none 0 0)))) .nil)) t_sl15Places_15) k e w := rfl
def x_sl15Places : X := (.seq (.reg [0] (.c (.q 2 [] (.mv (.c (.slice none 0 0)))) .nil)) t_sl15Places_16)
theorem u_sl15Places (P : Program) (k : KT) (e : Env) (w : World) : vcK P x_sl15Places k e w = vcK P (.seq (.reg [0] (.c (.q 2 [] (.mv (.c (.slice none 0 0)))) .nil)) t_sl15Places_16) k e w := rfl
def r_sl15Places : List XO := [(.mv (.t 2))]
theorem c_sl15Places : convF Try.prog [95, 96, 97, 107, 117, 118, 128, 129, 134, 144, 145, 153, 156, 174, 175, 182] Try.f169 [([0], []), ([0, 3], []), ([0, 3, 4], []), ([3, 4], [0]), ([0, 3, 4, 8], []), ([0, 3, 4], []), ([0, 3, 4], []), ([0, 3, 5], []), ([0, 3, 5, 18], []), ([3, 5], []), ([3, 5], []), ([3, 5, 22], []), ([3, 5], []), ([3, 5], []), ([2], [])] = some (x_sl15Places, r_sl15Places) := by kernel_rfl
def us_sl15Places := And.intro @u_sl15Places (And.intro @u_sl15Places_1 (And.intro @u_sl15Places_2 (And.intro @u_sl15Places_3 (And.intro @u_sl15Places_4 (And.intro @u_sl15Places_5 (And.intro @u_sl15Places_6 (And.intro @u_sl15Places_7 (And.intro @u_sl15Places_8 (And.intro @u_sl15Places_9 (And.intro @u_sl15Places_10 (And.intro @u_sl15Places_11 (And.intro @u_sl15Places_12 (And.intro @u_sl15Places_13 (And.intro @u_sl15Places_14 (And.intro @u_sl15Places_15 @u_sl15Places_16)))))))))))))))
def t_icoursing_1 : X := (.cond (.t 9) .skip (.exit 0))
theorem u_icoursing_1 (P : Program) (k : KT) (e : Env) (w : World) : vcK P t_icoursing_1 k e w = vcK P (.cond (.t 9) .skip (.exit 0)) k e w := rfl
def t_icoursing_2 : X := (.reg [0, 3, 4] (.c (.q 10 [] (.mv (.t 4))) (.c (.q 11 [] (.bin .add (.t 10) (.c (.int .i64 2)))) (.c (.q 4 [] (.mv (.t 11))) .nil))))
theorem u_icoursing_2 (P : Program) (k : KT) (e : Env) (w : World) : vcK P t_icoursing_2 k e w = vcK P (.reg [0, 3, 4] (.c (.q 10 [] (.mv (.t 4))) (.c (.q 11 [] (.bin .add (.t 10) (.c (.int .i64 2)))) (.c (.q 4 [] (.mv (.t 11))) .nil)))) k e w := rfl
def t_icoursing_3 : X := (.seq (.blk 1 (.reg [0, 3, 4] (.c (.q 12 [] (.mv (.t 3))) (.c (.q 13 [] (.mv (.t 4))) (.c (.e (some 14) [] (.bsl 3 1 [(.t 13)])) (.c (.e (some 15) [] (.app 50 3 1 8 [(.int .i64 0)] 50 (.t 12) (.t 14))) (.c (.q 3 [] (.mv (.t 15))) .nil))))))) t_icoursing_2)
theorem u_icoursing_3 (P : Program) (k : KT) (e : Env) (w : World) : vcK P t_icoursing_3 k e w = vcK P (.seq (.blk 1 (.reg [0, 3, 4] (.c (.q 12 [] (.mv (.t 3))) (.c (.q 13 [] (.mv (.t 4))) (.c (.e (some 14) [] (.bsl 3 1 [(.t 13)])) (.c (.e (some 15) [] (.app 50 3 1 8 [(.int .i64 0)] 50 (.t 12) (.t 14))) (.c (.q 3 [] (.mv (.t 15))) .nil))))))) t_icoursing_2) k e w := rfl
def t_icoursing_4 : X := (.seq (.seq (.reg [0, 3, 4, 9] (.c (.q 7 [] (.mv (.t 4))) (.c (.q 8 [] (.mv (.t 0))) (.c (.q 9 [] (.bin .leq (.t 7) (.t 8))) .nil)))) t_icoursing_1) t_icoursing_3)
theorem u_icoursing_4 (P : Program) (k : KT) (e : Env) (w : World) : vcK P t_icoursing_4 k e w = vcK P (.seq (.seq (.reg [0, 3, 4, 9] (.c (.q 7 [] (.mv (.t 4))) (.c (.q 8 [] (.mv (.t 0))) (.c (.q 9 [] (.bin .leq (.t 7) (.t 8))) .nil)))) t_icoursing_1) t_icoursing_3) k e w := rfl
def t_icoursing_5 : X := (.blk 0 (.loop [3, 4] [0] t_icoursing_4))
theorem u_icoursing_5 (P : Program) (k : KT) (e : Env) (w : World) : vcK P t_icoursing_5 k e w = vcK P (.blk 0 (.loop [3, 4] [0] t_icoursing_4)) k e w := rfl
def t_icoursing_6 : X := (.cond (.t 18) .skip (.exit 2))
theorem u_icoursing_6 (P : Program) (k : KT) (e : Env) (w : World) : vcK P t_icoursing_6 k e w = vcK P (.cond (.t 18) .skip (.exit 2)) k e w := rfl
def t_icoursing_7 : X := (.cond (.t 23) (.reg [3, 5] (.c (.q 24 [] (.mv (.t 3))) (.c (.q 25 [] (.mv (.t 5))) (.c (.e (some 26) [] (.bsl 3 1 [(.t 25)])) (.c (.e (some 27) [] (.app 50 3 1 8 [(.int .i64 0)] 50 (.t 24) (.t 26))) (.c (.q 3 [] (.mv (.t 27))) .nil)))))) .skip)
theorem u_icoursing_7 (P : Program) (k : KT) (e : Env) (w : World) : vcK P t_icoursing_7 k e w = vcK P (.cond (.t 23) (.reg [3, 5] (.c (.q 24 [] (.mv (.t 3))) (.c (.q 25 [] (.mv (.t 5))) (.c (.e (some 26) [] (.bsl 3 1 [(.t 25)])) (.c (.e (some 27) [] (.app 50 3 1 8 [(.int .i64 0)] 50 (.t 24) (.t 26))) (.c (.q 3 [] (.mv (.t 27))) .nil)))))) .skip) k e w := rfl
def t_icoursing_8 : X := (.reg [3, 5] (.c (.q 19 [] (.mv (.t 5))) (.c (.q 20 [] (.bin .sub (.t 19) (.c (.int .i64 1)))) (.c (.q 5 [] (.mv (.t 20))) .nil))))
theorem u_icoursing_8 (P : Program) (k : KT) (e : Env) (w : World) : vcK P t_icoursing_8 k e w = vcK P (.reg [3, 5] (.c (.q 19 [] (.mv (.t 5))) (.c (.q 20 [] (.bin .sub (.t 19) (.c (.int .i64 1)))) (.c (.q 5 [] (.mv (.t 20))) .nil)))) k e w := rfl
def t_icoursing_9 : X := (.seq (.blk 3 (.seq (.reg [3, 5, 23] (.c (.q 21 [] (.mv (.t 5))) (.c (.q 22 [] (.bin .rem (.t 21) (.c (.int .i64 2)))) (.c (.q 23 [] (.bin .eql (.t 22) (.c (.int .i64 1)))) .nil)))) t_icoursing_7)) t_icoursing_8)
theorem u_icoursing_9 (P : Program) (k : KT) (e : Env) (w : World) : vcK P t_icoursing_9 k e w = vcK P (.seq (.blk 3 (.seq (.reg [3, 5, 23] (.c (.q 21 [] (.mv (.t 5))) (.c (.q 22 [] (.bin .rem (.t 21) (.c (.int .i64 2)))) (.c (.q 23 [] (.bin .eql (.t 22) (.c (.int .i64 1)))) .nil)))) t_icoursing_7)) t_icoursing_8) k e w := rfl
def t_icoursing_10 : X := (.seq (.seq (.reg [3, 5, 18] (.c (.q 17 [] (.mv (.t 5))) (.c (.q 18 [] (.bin .geq (.t 17) (.c (.int .i64 3)))) .nil))) t_icoursing_6) t_icoursing_9)
theorem u_icoursing_10 (P : Program) (k : KT) (e : Env) (w : World) : vcK P t_icoursing_10 k e w = vcK P (.seq (.seq (.reg [3, 5, 18] (.c (.q 17 [] (.mv (.t 5))) (.c (.q 18 [] (.bin .geq (.t 17) (.c (.int .i64 3)))) .nil))) t_icoursing_6) t_icoursing_9) k e w := rfl
def t_icoursing_11 : X := (.blk 2 (.loop [3, 5] [] t_icoursing_10))
theorem u_icoursing_11 (P : Program) (k : KT) (e : Env) (w : World) : vcK P t_icoursing_11 k e w = vcK P (.blk 2 (.loop [3, 5] [] t_icoursing_10)) k e w := rfl
def t_icoursing_12 : X := (.seq (.reg [2] (.c (.q 28 [] (.mv (.t 3))) (.c (.q 2 [] (.mv (.t 28))) .nil))) .ret)
theorem u_icoursing_12 (P : Program) (k : KT) (e : Env) (w : World) : vcK P t_icoursing_12 k e w = vcK P (.seq (.reg [2] (.c (.q 28 [] (.mv (.t 3))) (.c (.q 2 [] (.mv (.t 28))) .nil))) .ret) k e w := rfl
def t_icoursing_13 : X := (.seq (.seq (.reg [3, 5] (.c (.q 16 [] (.mv (.t 0))) (.c (.q 5 [] (.mv (.t 16))) .nil))) t_icoursing_11) t_icoursing_12)
theorem u_icoursing_13 (P : Program) (k : KT) (e : Env) (w : World) : vcK P t_icoursing_13 k e w = vcK P (.seq (.seq (.reg [3, 5] (.c (.q 16 [] (.mv (.t 0))) (.c (.q 5 [] (.mv (.t 16))) .nil))) t_icoursing_11) t_icoursing_12) k e w := rfl
def t_icoursing_14 : X := (.seq (.seq (.reg [0, 3, 4] (.c (.q 4 [] (.mv (.c (.int .i64 2)))) .nil)) t_icoursing_5) t_icoursing_13)
theorem u_icoursing_14 (P : Program) (k : KT) (e : Env) (w : World) : vcK P t_icoursing_14 k e w = vcK P (.seq (.seq (.reg [0, 3, 4] (.c (.q 4 [] (.mv (.c (.int .i64 2)))) .nil)) t_icoursing_5) t_icoursing_13) k e w := rfl
def t_icoursing_15 : X := (.seq (.reg [0, 3] (.c (.e (some 6) [] (.bsl 3 1 [])) (.c (.q 3 [] (.mv (.t 6))) .nil))) t_icoursing_14)
theorem u_icoursing_15 (P : Program) (k : KT) (e : Env) (w : World) : vcK P t_icoursing_15 k e w = vcK P (.seq (.reg [0, 3] (.c (.e (some 6) [] (.bsl 3 1 [])) (.c (.q 3 [] (.mv (.t 6))) .nil))) t_icoursing_14) k e w := rfl
def x_icoursing : X := (.seq (.reg [0] (.c (.q 2 [] (.mv (.c (.slice none 0 0)))) .nil)) t_icoursing_15)
theorem u_icoursing (P : Program) (k : KT) (e : Env) (w : World) : vcK P x_icoursing k e w = vcK P (.seq (.reg [0] (.c (.q 2 [] (.mv (.c (.slice none 0 0)))) .nil)) t_icoursing_15) k e w := rfl
def r_icoursing : List XO := [(.mv (.t 2))]
theorem c_icoursing : convF Try.prog [95, 96, 97, 107, 117, 118, 128, 129, 134, 144, 145, 153, 156, 174, 175, 182] Try.f173 [([0], []), ([0, 3], []), ([0, 3, 4], []), ([3, 4], [0]), ([0, 3, 4, 9], []), ([0, 3, 4], []), ([0, 3, 4], []), ([3, 5], []), ([3, 5], []), ([3, 5, 18], []), ([3, 5, 23], []), ([3, 5], []), ([3, 5], []), ([2], [])] = some (x_icoursing, r_icoursing) := by kernel_rfl
def us_icoursing := And.intro @u_icoursing (And.intro @u_icoursing_1 (And.intro @u_icoursing_2 (And.intro @u_icoursing_3 (And.intro @u_icoursing_4 (And.intro @u_icoursing_5 (And.intro @u_icoursing_6 (And.intro @u_icoursing_7 (And.intro @u_icoursing_8 (And.intro @u_icoursing_9 (And.intro @u_icoursing_10 (And.intro @u_icoursing_11 (And.intro @u_icoursing_12 (And.intro @u_icoursing_13 (And.intro @u_icoursing_14 @u_icoursing_15))))))))))))))
def t_sl15Course_1 : X := (.reg [0, 3, 8, 9, 10] (.c (.q 14 [] (.mv (.t 3))) (.c (.q 15 [] (.mv (.t 0))) (.c (.q 16 [] (.mv (.t 5))) (.c (.q 17 [] (.bin .sub (.t 16) (.c (.int .i64 1)))) (.c (.q 18 [] (.mv (.t 5))) (.c (.q 19 [] (.sub (.t 15) (some (.t 17)) (some (.t 18)))) (.c (.q 20 [] (.bin .add (.t 14) (.t 19))) (.c (.q 3 [] (.mv (.t 20))) .nil)))))))))
theorem u_sl15Course_1 (P : Program) (k : KT) (e : Env) (w : World) : vcK P t_sl15Course_1 k e w = vcK P (.reg [0, 3, 8, 9, 10] (.c (.q 14 [] (.mv (.t 3))) (.c (.q 15 [] (.mv (.t 0))) (.c (.q 16 [] (.mv (.t 5))) (.c (.q 17 [] (.bin .sub (.t 16) (.c (.int .i64 1)))) (.c (.q 18 [] (.mv (.t 5))) (.c (.q 19 [] (.sub (.t 15) (some (.t 17)) (some (.t 18)))) (.c (.q 20 [] (.bin .add (.t 14) (.t 19))) (.c (.q 3 [] (.mv (.t 20))) .nil))))))))) k e w := rfl
def t_sl15Course_2 : X := (.reg [0, 3, 8, 9, 10] (.c (.q 21 [] (.bin .add (.t 10) (.c (.int .i64 1)))) (.c (.q 10 [] (.mv (.t 21))) .nil)))
theorem u_sl15Course_2 (P : Program) (k : KT) (e : Env) (w : World) : vcK P t_sl15Course_2 k e w = vcK P (.reg [0, 3, 8, 9, 10] (.c (.q 21 [] (.bin .add (.t 10) (.c (.int .i64 1)))) (.c (.q 10 [] (.mv (.t 21))) .nil))) k e w := rfl
def t_sl15Course_3 : X := (.seq (.blk 1 (.seq (.reg [0, 3, 5, 8, 9, 10] (.c (.q 12 [] (.ia 1 (.t 8) (.t 10))) (.c (.q 13 [] (.ld (.t 12))) (.c (.q 5 [] (.mv (.t 13))) .nil)))) t_sl15Course_1)) t_sl15Course_2)
theorem u_sl15Course_3 (P : Program) (k : KT) (e : Env) (w : World) : vcK P t_sl15Course_3 k e w = vcK P (.seq (.blk 1 (.seq (.reg [0, 3, 5, 8, 9, 10] (.c (.q 12 [] (.ia 1 (.t 8) (.t 10))) (.c (.q 13 [] (.ld (.t 12))) (.c (.q 5 [] (.mv (.t 13))) .nil)))) t_sl15Course_1)) t_sl15Course_2) k e w := rfl
def t_sl15Course_4 : X := (.seq (.cond (.t 11) .skip (.exit 0)) t_sl15Course_3)
theorem u_sl15Course_4 (P : Program) (k : KT) (e : Env) (w : World) : vcK P t_sl15Course_4 k e w = vcK P (.seq (.cond (.t 11) .skip (.exit 0)) t_sl15Course_3) k e w := rfl
def t_sl15Course_5 : X := (.seq (.reg [0, 3, 8, 9, 10, 11] (.c (.q 11 [] (.bin .lss (.t 10) (.t 9))) .nil)) t_sl15Course_4)
theorem u_sl15Course_5 (P : Program) (k : KT) (e : Env) (w : World) : vcK P t_sl15Course_5 k e w = vcK P (.seq (.reg [0, 3, 8, 9, 10, 11] (.c (.q 11 [] (.bin .lss (.t 10) (.t 9))) .nil)) t_sl15Course_4) k e w := rfl
def t_sl15Course_6 : X := (.blk 0 (.loop [3, 10] [0, 8, 9] t_sl15Course_5))
theorem u_sl15Course_6 (P : Program) (k : KT) (e : Env) (w : World) : vcK P t_sl15Course_6 k e w = vcK P (.blk 0 (.loop [3, 10] [0, 8, 9] t_sl15Course_5)) k e w := rfl
def t_sl15Course_7 : X := (.seq (.reg [2] (.c (.q 22 [] (.mv (.t 3))) (.c (.q 2 [] (.mv (.t 22))) .nil))) .ret)
theorem u_sl15Course_7 (P : Program) (k : KT) (e : Env) (w : World) : vcK P t_sl15Course_7 k e w = vcK P (.seq (.reg [2] (.c (.q 22 [] (.mv (.t 3))) (.c (.q 2 [] (.mv (.t 22))) .nil))) .ret) k e w := rfl
def t_sl15Course_8 : X := (.seq (.seq (.reg [0, 3, 8, 9, 10] (.c (.q 6 [] (.mv (.t 0))) (.c (.q 7 [] (.len (.t 6))) (.c (.e (some 8) [] (.call false 169 [(.t 7)])) (.c (.q 9 [] (.lens (.t 8))) (.c (.q 10 [] (.mv (.c (.int .i64 0)))) .nil)))))) t_sl15Course_6) t_sl15Course_7)
theorem u_sl15Course_8 (P : Program) (k : KT) (e : Env) (w : World) : vcK P t_sl15Course_8 k e w = vcK P (.seq (.seq (.reg [0, 3, 8, 9, 10] (.c (.q 6 [] (.mv (.t 0))) (.c (.q 7 [] (.len (.t 6))) (.c (.e (some 8) [] (.call false 169 [(.t 7)])) (.c (.q 9 [] (.lens (.t 8))) (.c (.q 10 [] (.mv (.c (.int .i64 0)))) .nil)))))) t_sl15Course_6) t_sl15Course_7) k e w := rfl
def t_sl15Course_9 : X := (.seq (.reg [0, 3] (.c (.q 3 [] (.mv (.s []))) .nil)) t_sl15Course_8)
theorem u_sl15Course_9 (P : Program) (k : KT) (e : Env) (w : World) : vcK P t_sl15Course_9 k e w = vcK P (.seq (.reg [0, 3] (.c (.q 3 [] (.mv (.s []))) .nil)) t_sl15Course_8) k e w := rfl
def x_sl15Course : X := (.seq (.reg [0] (.c (.q 2 [] (.mv (.s []))) .nil)) t_sl15Course_9)
theorem u_sl15Course (P : Program) (k : KT) (e : Env) (w : World) : vcK P x_sl15Course k e w = vcK P (.seq (.reg [0] (.c (.q 2 [] (.mv (.s []))) .nil)) t_sl15Course_9) k e w := rfl
def r_sl15Course : List XO := [(.mv (.t 2))]
theorem c_sl15Course : convF Try.prog [95, 96, 97, 107, 117, 118, 128, 129, 134, 144, 145, 153, 156, 174, 175, 182] Try.f148 [([0], []), ([0, 3], []), ([0, 3, 8, 9, 10], []), ([3, 10], [0, 8, 9]), ([0, 3, 8, 9, 10, 11], []), ([0, 3, 5, 8, 9, 10], []), ([0, 3, 8, 9, 10], []), ([0, 3, 8, 9, 10], []), ([2], [])] = some (x_sl15Course, r_sl15Course) := by kernel_rfl
def us_sl15Course := And.intro @u_sl15Course (And.intro @u_sl15Course_1 (And.intro @u_sl15Course_2 (And.intro @u_sl15Course_3 (And.intro @u_sl15Course_4 (And.intro @u_sl15Course_5 (And.intro @u_sl15Course_6 (And.intro @u_sl15Course_7 (And.intro @u_sl15Course_8 @u_sl15Course_9))))))))
def t_icourseOf_1 : X := (.reg [0, 3, 8, 9, 10] (.c (.q 14 [] (.mv (.t 3))) (.c (.q 15 [] (.mv (.t 0))) (.c (.q 16 [] (.mv (.t 5))) (.c (.q 17 [] (.bin .sub (.t 16) (.c (.int .i64 1)))) (.c (.q 18 [] (.mv (.t 5))) (.c (.q 19 [] (.sub (.t 15) (some (.t 17)) (some (.t 18)))) (.c (.q 20 [] (.bin .add (.t 14) (.t 19))) (.c (.q 3 [] (.mv (.t 20))) .nil)))))))))
theorem u_icourseOf_1 (P : Program) (k : KT) (e : Env) (w : World) : vcK P t_icourseOf_1 k e w = vcK P (.reg [0, 3, 8, 9, 10] (.c (.q 14 [] (.mv (.t 3))) (.c (.q 15 [] (.mv (.t 0))) (.c (.q 16 [] (.mv (.t 5))) (.c (.q 17 [] (.bin .sub (.t 16) (.c (.int .i64 1)))) (.c (.q 18 [] (.mv (.t 5))) (.c (.q 19 [] (.sub (.t 15) (some (.t 17)) (some (.t 18)))) (.c (.q 20 [] (.bin .add (.t 14) (.t 19))) (.c (.q 3 [] (.mv (.t 20))) .nil))))))))) k e w := rfl
def t_icourseOf_2 : X := (.reg [0, 3, 8, 9, 10] (.c (.q 21 [] (.bin .add (.t 10) (.c (.int .i64 1)))) (.c (.q 10 [] (.mv (.t 21))) .nil)))
theorem u_icourseOf_2 (P : Program) (k : KT) (e : Env) (w : World) : vcK P t_icourseOf_2 k e w = vcK P (.reg [0, 3, 8, 9, 10] (.c (.q 21 [] (.bin .add (.t 10) (.c (.int .i64 1)))) (.c (.q 10 [] (.mv (.t 21))) .nil))) k e w := rfl
def t_icourseOf_3 : X := (.seq (.blk 1 (.seq (.reg [0, 3, 5, 8, 9, 10] (.c (.q 12 [] (.ia 1 (.t 8) (.t 10))) (.c (.q 13 [] (.ld (.t 12))) (.c (.q 5 [] (.mv (.t 13))) .nil)))) t_icourseOf_1)) t_icourseOf_2)
theorem u_icourseOf_3 (P : Program) (k : KT) (e : Env) (w : World) : vcK P t_icourseOf_3 k e w = vcK P (.seq (.blk 1 (.seq (.reg [0, 3, 5, 8, 9, 10] (.c (.q 12 [] (.ia 1 (.t 8) (.t 10))) (.c (.q 13 [] (.ld (.t 12))) (.c (.q 5 [] (.mv (.t 13))) .nil)))) t_icourseOf_1)) t_icourseOf_2) k e w := rfl
def t_icourseOf_4 : X := (.seq (.cond (.t 11) .skip (.exit 0)) t_icourseOf_3)
theorem u_icourseOf_4 (P : Program) (k : KT) (e : Env) (w : World) : vcK P t_icourseOf_4 k e w = vcK P (.seq (.cond (.t 11) .skip (.exit 0)) t_icourseOf_3) k e w := rfl
def t_icourseOf_5 : X := (.seq (.reg [0, 3, 8, 9, 10, 11] (.c (.q 11 [] (.bin .lss (.t 10) (.t 9))) .nil)) t_icourseOf_4)
theorem u_icourseOf_5 (P : Program) (k : KT) (e : Env) (w : World) : vcK P t_icourseOf_5 k e w = vcK P (.seq (.reg [0, 3, 8, 9, 10, 11] (.c (.q 11 [] (.bin .lss (.t 10) (.t 9))) .nil)) t_icourseOf_4) k e w := rfl
def t_icourseOf_6 : X := (.blk 0 (.loop [3, 10] [0, 8, 9] t_icourseOf_5))
theorem u_icourseOf_6 (P : Program) (k : KT) (e : Env) (w : World) : vcK P t_icourseOf_6 k e w = vcK P (.blk 0 (.loop [3, 10] [0, 8, 9] t_icourseOf_5)) k e w := rfl
def t_icourseOf_7 : X := (.seq (.reg [2] (.c (.q 22 [] (.mv (.t 3))) (.c (.q 2 [] (.mv (.t 22))) .nil))) .ret)
theorem u_icourseOf_7 (P : Program) (k : KT) (e : Env) (w : World) : vcK P t_icourseOf_7 k e w = vcK P (.seq (.reg [2] (.c (.q 22 [] (.mv (.t 3))) (.c (.q 2 [] (.mv (.t 22))) .nil))) .ret) k e w := rfl
def t_icourseOf_8 : X := (.seq (.seq (.reg [0, 3, 8, 9, 10] (.c (.q 6 [] (.mv (.t 0))) (.c (.q 7 [] (.len (.t 6))) (.c (.e (some 8) [] (.call false 173 [(.t 7)])) (.c (.q 9 [] (.lens (.t 8))) (.c (.q 10 [] (.mv (.c (.int .i64 0)))) .nil)))))) t_icourseOf_6) t_icourseOf_7)
theorem u_icourseOf_8 (P : Program) (k : KT) (e : Env) (w : World) : vcK P t_icourseOf_8 k e w = vcK P (.seq (.seq (.reg [0, 3, 8, 9, 10] (.c (.q 6 [] (.mv (.t 0))) (.c (.q 7 [] (.len (.t 6))) (.c (.e (some 8) [] (.call false 173 [(.t 7)])) (.c (.q 9 [] (.lens (.t 8))) (.c (.q 10 [] (.mv (.c (.int .i64 0)))) .nil)))))) t_icourseOf_6) t_icourseOf_7) k e w := rfl
def t_icourseOf_9 : X := (.seq (.reg [0, 3] (.c (.q 3 [] (.mv (.s []))) .nil)) t_icourseOf_8)
theorem u_icourseOf_9 (P : Program) (k : KT) (e : Env) (w : World) : vcK P t_icourseOf_9 k e w = vcK P (.seq (.reg [0, 3] (.c (.q 3 [] (.mv (.s []))) .nil)) t_icourseOf_8) k e w := rfl
def x_icourseOf : X := (.seq (.reg [0] (.c (.q 2 [] (.mv (.s []))) .nil)) t_icourseOf_9)
theorem u_icourseOf (P : Program) (k : KT) (e : Env) (w : World) : vcK P x_icourseOf k e w = vcK P (.seq (.reg [0] (.c (.q 2 [] (.mv (.s []))) .nil)) t_icourseOf_9) k e w := rfl
def r_icourseOf : List XO := [(.mv (.t 2))]
theorem c_icourseOf : convF Try.prog [95, 96, 97, 107, 117, 118, 128, 129, 134, 144, 145, 153, 156, 174, 175, 182] Try.f151 [([0], []), ([0, 3], []), ([0, 3, 8, 9, 10], []), ([3, 10], [0, 8, 9]), ([0, 3, 8, 9, 10, 11], []), ([0, 3, 5, 8, 9, 10], []), ([0, 3, 8, 9, 10], []), ([0, 3, 8, 9, 10], []), ([2], [])] = some (x_icourseOf, r_icourseOf) := by kernel_rfl
def us_icourseOf := And.intro @u_icourseOf (And.intro @u_icourseOf_1 (And.intro @u_icourseOf_2 (And.intro @u_icourseOf_3 (And.intro @u_icourseOf_4 (And.intro @u_icourseOf_5 (And.intro @u_icourseOf_6 (And.intro @u_icourseOf_7 (And.intro @u_icourseOf_8 @u_icourseOf_9))))))))

/-- The coursing places of a stage. -/
def coursingL (n : Nat) : List Int := ((List.range (n + 1)).filter fun p => p % 2 = 0 ∧ 2 ≤ p).map Int.ofNat ++ (((List.range (n + 1)).filter fun p => p % 2 = 1 ∧ 3 ≤ p).map Int.ofNat).reverse
theorem cou_zero : ∀ n : Nat, (coursingL n).take 0 = [] := fun _ => List.take_zero
theorem cou_even : ∀ n < 9, ∀ k < n / 2, (coursingL n).take (k + 1) = (coursingL n).take k ++ [((2 * k + 2 : Nat) : Int)] := by decide
theorem cou_odd : ∀ n < 9, ∀ j < (n - 1) / 2, (coursingL n).take (n / 2 + (j + 1)) = (coursingL n).take (n / 2 + j) ++ [((n - (n + 1) % 2 - 2 * j : Nat) : Int)] := by decide
theorem cou_down : ∀ n < 9, ∀ j < n - 2, (coursingL n).take (n / 2 + ((n + 1) / 2 - (n - j) / 2)) = (coursingL n).take (n / 2 + ((n + 1) / 2 - (n + 1 - j) / 2)) ++ (if (n - j) % 2 = 1 then [((n - j : Nat) : Int)] else []) := by decide
theorem cou_all : ∀ n < 9, (coursingL n).take (n / 2 + (n - 1) / 2) = coursingL n := by decide
theorem cou_len : ∀ n < 9, (coursingL n).length = n - 1 := by decide
theorem cou_in : ∀ n < 9, ∀ k < (coursingL n).length, 2 ≤ (coursingL n).getD k 0 ∧ (coursingL n).getD k 0 ≤ n := by decide
theorem sl15Places_ok (n : Nat) (h0 : 0 < n) (hn : n < 9) (w : World) : Fn 169 [.int .i64 n] w (fun v w' => Own fI 1 3 w.heap.size w' v (coursingL n)) := by
  (refine callsV_of mix Try.func169 c_sl15Places ?_; simp only [↓vsd, vsn, gW, qd, qv, ev, pick, argE, List.map_cons, List.map_nil, Option.map_some, Option.map_none, zipE, List.cons_append, List.nil_append, ne_eq, eq_self, forall_const, implies_true, if_true, if_false, reduceIte, List.cons.injEq, reduceCtorEq, Nat.reduceEqDiff, List.length_nil, List.length_cons, Nat.reduceAdd, Nat.reduceLT, List.set_cons_zero, List.set_cons_succ, ↓us_sl15Places, r_sl15Places])
  refine m_upto (n / 2) (fun k vs w' => ∃ v, vs = [v, .int .i64 (2 * k + 2 : Nat)] ∧ Own fI 1 3 w.heap.size w' v ((coursingL n).take k) ∧ Ext w w') ⟨_, rfl, Own.nil fI_len, Ext.refl _⟩ ?_
  rintro k vs w' hk ⟨v, rfl, ho, hx⟩
  simp only [↓vsd, vsn, gW, qd, qv, ev, pick, argE, List.map_cons, List.map_nil, Option.map_some, Option.map_none, zipE, List.cons_append, List.nil_append, ne_eq, eq_self, forall_const, implies_true, if_true, if_false, reduceIte, List.cons.injEq, reduceCtorEq, Nat.reduceEqDiff, List.length_nil, List.length_cons, Nat.reduceAdd, Nat.reduceLT, List.set_cons_zero, List.set_cons_succ, ↓us_sl15Places, r_sl15Places]
  refine ⟨fun hle => ?_, fun hgt => ?_⟩
  · refine m_bsl (one_el rfl) ?_
    rintro b w1 hb hblk hx1 hs1
    simp only [↓vsd, vsn, gW, qd, qv, ev, pick, argE, List.map_cons, List.map_nil, Option.map_some, Option.map_none, zipE, List.cons_append, List.nil_append, ne_eq, eq_self, forall_const, implies_true, if_true, if_false, reduceIte, List.cons.injEq, reduceCtorEq, Nat.reduceEqDiff, List.length_nil, List.length_cons, Nat.reduceAdd, Nat.reduceLT, List.set_cons_zero, List.set_cons_succ, ↓us_sl15Places, r_sl15Places]
    refine m_app (ho.ext hx1) (Sq.one fI_len hblk rfl) fI_one (by decide) (by simp; omega) (by decide) (Nat.le_trans hx.size hx1.size) ?_
    rintro v2 w2 ho2 hg2
    have hx2 := (ho.ext hx1).grown (hx.trans hx1) (Nat.le_refl _) hg2
    simp only [↓vsd, vsn, gW, qd, qv, ev, pick, argE, List.map_cons, List.map_nil, Option.map_some, Option.map_none, zipE, List.cons_append, List.nil_append, ne_eq, eq_self, forall_const, implies_true, if_true, if_false, reduceIte, List.cons.injEq, reduceCtorEq, Nat.reduceEqDiff, List.length_nil, List.length_cons, Nat.reduceAdd, Nat.reduceLT, List.set_cons_zero, List.set_cons_succ, ↓us_sl15Places, r_sl15Places]
    exact ⟨inR_i64 (by omega), UpTo.next (by omega) ⟨v2, by simp; omega, ho2.to (cou_even n hn k (by omega)).symm, hx2⟩⟩
  · obtain rfl : k = n / 2 := by omega
    have main (p : Nat) (hp : p = n - (n + 1) % 2) : loopE Try.prog [3, 5] [] t_sl15Places_10 (KT.blk 2 (KT.seq t_sl15Places_11 (KT.done r_sl15Places fun v w' => Ext w w' ∧ Own fI 1 3 w.heap.size w' v (coursingL n)))) [v, .int .i64 p] [] w' := by
      refine m_upto ((n - 1) / 2) (fun j vs w' => ∃ v, vs = [v, .int .i64 (n - (n + 1) % 2 - 2 * j : Nat)] ∧ Own fI 1 3 w.heap.size w' v ((coursingL n).take (n / 2 + j)) ∧ Ext w w') ⟨v, by rw [hp]; rfl, ho, hx⟩ ?_
      rintro j vs w3 hj ⟨v3, rfl, ho3, hx3⟩
      simp only [↓vsd, vsn, gW, qd, qv, ev, pick, argE, List.map_cons, List.map_nil, Option.map_some, Option.map_none, zipE, List.cons_append, List.nil_append, ne_eq, eq_self, forall_const, implies_true, if_true, if_false, reduceIte, List.cons.injEq, reduceCtorEq, Nat.reduceEqDiff, List.length_nil, List.length_cons, Nat.reduceAdd, Nat.reduceLT, List.set_cons_zero, List.set_cons_succ, ↓us_sl15Places, r_sl15Places]
      refine ⟨fun hle => ?_, fun hgt => ⟨hx3, ?_⟩⟩
      · refine m_bsl (one_el rfl) ?_
        rintro b w4 hb hblk hx4 hs4
        simp only [↓vsd, vsn, gW, qd, qv, ev, pick, argE, List.map_cons, List.map_nil, Option.map_some, Option.map_none, zipE, List.cons_append, List.nil_append, ne_eq, eq_self, forall_const, implies_true, if_true, if_false, reduceIte, List.cons.injEq, reduceCtorEq, Nat.reduceEqDiff, List.length_nil, List.length_cons, Nat.reduceAdd, Nat.reduceLT, List.set_cons_zero, List.set_cons_succ, ↓us_sl15Places, r_sl15Places]
        refine m_app (ho3.ext hx4) (Sq.one fI_len hblk rfl) fI_one (by decide) (by simp; omega) (by decide) (Nat.le_trans hx3.size hx4.size) ?_
        rintro v5 w5 ho5 hg5
        have hx5 := (ho3.ext hx4).grown (hx3.trans hx4) (Nat.le_refl _) hg5
        simp only [↓vsd, vsn, gW, qd, qv, ev, pick, argE, List.map_cons, List.map_nil, Option.map_some, Option.map_none, zipE, List.cons_append, List.nil_append, ne_eq, eq_self, forall_const, implies_true, if_true, if_false, reduceIte, List.cons.injEq, reduceCtorEq, Nat.reduceEqDiff, List.length_nil, List.length_cons, Nat.reduceAdd, Nat.reduceLT, List.set_cons_zero, List.set_cons_succ, ↓us_sl15Places, r_sl15Places]
        exact ⟨inR_i64 (by omega), UpTo.next (by omega) ⟨v5, by simp; omega, ho5.to (cou_odd n hn j (by omega)).symm, hx5⟩⟩
      · obtain rfl : j = (n - 1) / 2 := by omega
        exact ho3.to (cou_all n hn)
    refine ⟨by decide, fun he => ?_, fun he => ?_⟩
    · have e : (n : Int) - 1 = (n - (n + 1) % 2 : Nat) := by omega
      rw [e]
      exact ⟨inR_i64 (by omega), main _ rfl⟩
    · exact main n (by omega)
theorem icoursing_ok (n : Nat) (hn : n < 9) (w : World) : Fn 173 [.int .i64 n] w (fun v w' => Own fI 1 3 w.heap.size w' v (coursingL n)) := by
  (refine callsV_of mix Try.func173 c_icoursing ?_; simp only [↓vsd, vsn, gW, qd, qv, ev, pick, argE, List.map_cons, List.map_nil, Option.map_some, Option.map_none, zipE, List.cons_append, List.nil_append, ne_eq, eq_self, forall_const, implies_true, if_true, if_false, reduceIte, List.cons.injEq, reduceCtorEq, Nat.reduceEqDiff, List.length_nil, List.length_cons, Nat.reduceAdd, Nat.reduceLT, List.set_cons_zero, List.set_cons_succ, ↓us_icoursing, r_icoursing])
  refine m_bsl (by simp) ?_
  rintro b w1 hb hblk hx1 hs1
  simp only [↓vsd, vsn, gW, qd, qv, ev, pick, argE, List.map_cons, List.map_nil, Option.map_some, Option.map_none, zipE, List.cons_append, List.nil_append, ne_eq, eq_self, forall_const, implies_true, if_true, if_false, reduceIte, List.cons.injEq, reduceCtorEq, Nat.reduceEqDiff, List.length_nil, List.length_cons, Nat.reduceAdd, Nat.reduceLT, List.set_cons_zero, List.set_cons_succ, ↓us_icoursing, r_icoursing]
  refine m_upto (n / 2) (fun k vs w' => ∃ v, vs = [v, .int .i64 (2 * k + 2 : Nat)] ∧ Own fI 1 3 w.heap.size w' v ((coursingL n).take k) ∧ Ext w w') ⟨_, rfl, Own.empty fI_len hblk (by omega), hx1⟩ ?_
  rintro k vs w' hk ⟨v, rfl, ho, hx⟩
  simp only [↓vsd, vsn, gW, qd, qv, ev, pick, argE, List.map_cons, List.map_nil, Option.map_some, Option.map_none, zipE, List.cons_append, List.nil_append, ne_eq, eq_self, forall_const, implies_true, if_true, if_false, reduceIte, List.cons.injEq, reduceCtorEq, Nat.reduceEqDiff, List.length_nil, List.length_cons, Nat.reduceAdd, Nat.reduceLT, List.set_cons_zero, List.set_cons_succ, ↓us_icoursing, r_icoursing]
  refine ⟨fun hle => ?_, fun hgt => ?_⟩
  · refine m_bsl (one_el rfl) ?_
    rintro b w1 hb hblk hx1 hs1
    simp only [↓vsd, vsn, gW, qd, qv, ev, pick, argE, List.map_cons, List.map_nil, Option.map_some, Option.map_none, zipE, List.cons_append, List.nil_append, ne_eq, eq_self, forall_const, implies_true, if_true, if_false, reduceIte, List.cons.injEq, reduceCtorEq, Nat.reduceEqDiff, List.length_nil, List.length_cons, Nat.reduceAdd, Nat.reduceLT, List.set_cons_zero, List.set_cons_succ, ↓us_icoursing, r_icoursing]
    refine m_app (ho.ext hx1) (Sq.one fI_len hblk rfl) fI_one (by decide) (by simp; omega) (by decide) (Nat.le_trans hx.size hx1.size) ?_
    rintro v2 w2 ho2 hg2
    have hx2 := (ho.ext hx1).grown (hx.trans hx1) (Nat.le_refl _) hg2
    simp only [↓vsd, vsn, gW, qd, qv, ev, pick, argE, List.map_cons, List.map_nil, Option.map_some, Option.map_none, zipE, List.cons_append, List.nil_append, ne_eq, eq_self, forall_const, implies_true, if_true, if_false, reduceIte, List.cons.injEq, reduceCtorEq, Nat.reduceEqDiff, List.length_nil, List.length_cons, Nat.reduceAdd, Nat.reduceLT, List.set_cons_zero, List.set_cons_succ, ↓us_icoursing, r_icoursing]
    exact ⟨inR_i64 (by omega), UpTo.next (by omega) ⟨v2, by simp; omega, ho2.to (cou_even n hn k (by omega)).symm, hx2⟩⟩
  · obtain rfl : k = n / 2 := by omega
    refine m_upto (n - 2) (fun j vs w' => ∃ v, vs = [v, .int .i64 (n - j : Nat)] ∧ Own fI 1 3 w.heap.size w' v ((coursingL n).take (n / 2 + ((n + 1) / 2 - (n + 1 - j) / 2))) ∧ Ext w w') ⟨v, rfl, ho.to (by simp), hx⟩ ?_
    rintro j vs w3 hj ⟨v3, rfl, ho3, hx3⟩
    have hd := cou_down n hn j
    simp only [↓vsd, vsn, gW, qd, qv, ev, pick, argE, List.map_cons, List.map_nil, Option.map_some, Option.map_none, zipE, List.cons_append, List.nil_append, ne_eq, eq_self, forall_const, implies_true, if_true, if_false, reduceIte, List.cons.injEq, reduceCtorEq, Nat.reduceEqDiff, List.length_nil, List.length_cons, Nat.reduceAdd, Nat.reduceLT, List.set_cons_zero, List.set_cons_succ, ↓us_icoursing, r_icoursing]
    refine ⟨fun hle => ⟨by decide, fun h1 => ?_, fun h0 => ?_⟩, fun hgt => ⟨hx3, ?_⟩⟩
    · refine m_bsl (one_el rfl) ?_
      rintro b w4 hb hblk hx4 hs4
      simp only [↓vsd, vsn, gW, qd, qv, ev, pick, argE, List.map_cons, List.map_nil, Option.map_some, Option.map_none, zipE, List.cons_append, List.nil_append, ne_eq, eq_self, forall_const, implies_true, if_true, if_false, reduceIte, List.cons.injEq, reduceCtorEq, Nat.reduceEqDiff, List.length_nil, List.length_cons, Nat.reduceAdd, Nat.reduceLT, List.set_cons_zero, List.set_cons_succ, ↓us_icoursing, r_icoursing]
      refine m_app (ho3.ext hx4) (Sq.one fI_len hblk rfl) fI_one (by decide) (by simp; omega) (by decide) (Nat.le_trans hx3.size hx4.size) ?_
      rintro v5 w5 ho5 hg5
      have hx5 := (ho3.ext hx4).grown (hx3.trans hx4) (Nat.le_refl _) hg5
      simp only [↓vsd, vsn, gW, qd, qv, ev, pick, argE, List.map_cons, List.map_nil, Option.map_some, Option.map_none, zipE, List.cons_append, List.nil_append, ne_eq, eq_self, forall_const, implies_true, if_true, if_false, reduceIte, List.cons.injEq, reduceCtorEq, Nat.reduceEqDiff, List.length_nil, List.length_cons, Nat.reduceAdd, Nat.reduceLT, List.set_cons_zero, List.set_cons_succ, ↓us_icoursing, r_icoursing]
      refine ⟨inR_i64 (by omega), UpTo.next (by omega) ⟨v5, by simp; omega, ho5.to ?_, hx5⟩⟩
      rw [show n + 1 - (j + 1) = n - j by omega, hd (by omega), if_pos (by omega)]
    · refine ⟨inR_i64 (by omega), UpTo.next (by omega) ⟨v3, by simp; omega, ho3.to ?_, hx3⟩⟩
      rw [show n + 1 - (j + 1) = n - j by omega, hd (by omega), if_neg (by omega), List.append_nil]
    · refine ho3.to ?_
      rw [show n / 2 + ((n + 1) / 2 - (n + 1 - j) / 2) = n / 2 + (n - 1) / 2 by omega]
      exact cou_all n hn
theorem sub_one (l : List UInt8) (i : Nat) (h : i < l.length) : (l.take (i + 1)).drop i = [l.getD i 0] := by
  rw [List.take_add_one, List.drop_append, List.getD_eq_getElem?_getD, List.getElem?_eq_getElem h]
  simp [Nat.min_eq_left (Nat.le_of_lt h)]
theorem take_map_succ {α β : Type} (f : α → β) (d : α) (l : List α) (k : Nat) (h : k < l.length) : (l.take (k + 1)).map f = (l.take k).map f ++ [f (l.getD k d)] := by
  rw [List.take_add_one, List.getElem?_eq_getElem h, List.getD_eq_getElem?_getD, List.getElem?_eq_getElem h, List.map_append]
  rfl
/-- The coursing order of a row. -/
def courseL (l : List UInt8) : List UInt8 := (coursingL l.length).map fun p => l.getD (p.toNat - 1) 0
theorem sl15Course_ok (l : List UInt8) (h0 : 0 < l.length) (hl : l.length < 9) (w : World) : Fn 148 [S l] w (fun v _ => v = S (courseL l)) := by
  (refine callsV_of mix Try.func148 c_sl15Course ?_; simp only [↓vsd, vsn, gW, qd, qv, ev, pick, argE, List.map_cons, List.map_nil, Option.map_some, Option.map_none, zipE, List.cons_append, List.nil_append, ne_eq, eq_self, forall_const, implies_true, if_true, if_false, reduceIte, List.cons.injEq, reduceCtorEq, Nat.reduceEqDiff, List.length_nil, List.length_cons, Nat.reduceAdd, Nat.reduceLT, List.set_cons_zero, List.set_cons_succ, ↓us_sl15Course, r_sl15Course])
  refine m_call (sl15Places_ok _ h0 hl _) ?_
  rintro v1 w1 hx1 ho1
  simp only [↓vsd, vsn, gW, qd, qv, ev, pick, argE, List.map_cons, List.map_nil, Option.map_some, Option.map_none, zipE, List.cons_append, List.nil_append, ne_eq, eq_self, forall_const, implies_true, if_true, if_false, reduceIte, List.cons.injEq, reduceCtorEq, Nat.reduceEqDiff, List.length_nil, List.length_cons, Nat.reduceAdd, Nat.reduceLT, List.set_cons_zero, List.set_cons_succ, ↓us_sl15Course, r_sl15Course, ho1.sq.facts]
  refine m_upto (coursingL l.length).length (fun k vs w' => vs = [S (((coursingL l.length).take k).map fun p => l.getD (p.toNat - 1) 0), .int .i64 k] ∧ Ext w1 w') ⟨rfl, Ext.refl _⟩ ?_
  rintro k vs w' hk ⟨rfl, hx⟩
  have ho := ho1.sq.ext hx
  have hcl := cou_len _ hl
  by_cases hlt : k < (coursingL l.length).length
  · have hp := cou_in _ hl k hlt
    obtain ⟨p, hpe⟩ : ∃ p : Nat, (coursingL l.length).getD k 0 = (p + 1 : Nat) := ⟨((coursingL l.length).getD k 0).toNat - 1, by omega⟩
    simp only [↓vsd, vsn, gW, qd, qv, ev, pick, argE, List.map_cons, List.map_nil, Option.map_some, Option.map_none, zipE, List.cons_append, List.nil_append, ne_eq, eq_self, forall_const, implies_true, if_true, if_false, reduceIte, List.cons.injEq, reduceCtorEq, Nat.reduceEqDiff, List.length_nil, List.length_cons, Nat.reduceAdd, Nat.reduceLT, List.set_cons_zero, List.set_cons_succ, ↓us_sl15Course, r_sl15Course, ho.facts, ho.at1 0 hlt, hpe]
    rw [hpe] at hp
    rw [show ((p + 1 : Nat) - 1 : Int) = (p : Nat) by omega, Nat.add_sub_cancel, sub_one l p (by omega)]
    refine ⟨fun _ => ⟨by omega, inR_i64 (by omega), by omega, by simp; omega, inR_i64 (by omega), UpTo.next hlt ⟨?_, hx⟩⟩, fun h => by omega⟩
    rw [take_map_succ _ 0 _ _ hlt, hpe]; rfl
  · obtain rfl : k = (coursingL l.length).length := by omega
    simp only [↓vsd, vsn, gW, qd, qv, ev, pick, argE, List.map_cons, List.map_nil, Option.map_some, Option.map_none, zipE, List.cons_append, List.nil_append, ne_eq, eq_self, forall_const, implies_true, if_true, if_false, reduceIte, List.cons.injEq, reduceCtorEq, Nat.reduceEqDiff, List.length_nil, List.length_cons, Nat.reduceAdd, Nat.reduceLT, List.set_cons_zero, List.set_cons_succ, ↓us_sl15Course, r_sl15Course, ho.facts]
    exact ⟨fun h => by omega, fun _ => ⟨hx1.trans hx, by rw [List.take_length]; rfl⟩⟩
theorem icourseOf_ok (l : List UInt8) (h0 : 0 < l.length) (hl : l.length < 9) (w : World) : Fn 151 [S l] w (fun v _ => v = S (courseL l)) := by
  (refine callsV_of mix Try.func151 c_icourseOf ?_; simp only [↓vsd, vsn, gW, qd, qv, ev, pick, argE, List.map_cons, List.map_nil, Option.map_some, Option.map_none, zipE, List.cons_append, List.nil_append, ne_eq, eq_self, forall_const, implies_true, if_true, if_false, reduceIte, List.cons.injEq, reduceCtorEq, Nat.reduceEqDiff, List.length_nil, List.length_cons, Nat.reduceAdd, Nat.reduceLT, List.set_cons_zero, List.set_cons_succ, ↓us_icourseOf, r_icourseOf])
  refine m_call (icoursing_ok _ hl _) ?_
  rintro v1 w1 hx1 ho1
  simp only [↓vsd, vsn, gW, qd, qv, ev, pick, argE, List.map_cons, List.map_nil, Option.map_some, Option.map_none, zipE, List.cons_append, List.nil_append, ne_eq, eq_self, forall_const, implies_true, if_true, if_false, reduceIte, List.cons.injEq, reduceCtorEq, Nat.reduceEqDiff, List.length_nil, List.length_cons, Nat.reduceAdd, Nat.reduceLT, List.set_cons_zero, List.set_cons_succ, ↓us_icourseOf, r_icourseOf, ho1.sq.facts]
  refine m_upto (coursingL l.length).length (fun k vs w' => vs = [S (((coursingL l.length).take k).map fun p => l.getD (p.toNat - 1) 0), .int .i64 k] ∧ Ext w1 w') ⟨rfl, Ext.refl _⟩ ?_
  rintro k vs w' hk ⟨rfl, hx⟩
  have ho := ho1.sq.ext hx
  have hcl := cou_len _ hl
  by_cases hlt : k < (coursingL l.length).length
  · have hp := cou_in _ hl k hlt
    obtain ⟨p, hpe⟩ : ∃ p : Nat, (coursingL l.length).getD k 0 = (p + 1 : Nat) := ⟨((coursingL l.length).getD k 0).toNat - 1, by omega⟩
    simp only [↓vsd, vsn, gW, qd, qv, ev, pick, argE, List.map_cons, List.map_nil, Option.map_some, Option.map_none, zipE, List.cons_append, List.nil_append, ne_eq, eq_self, forall_const, implies_true, if_true, if_false, reduceIte, List.cons.injEq, reduceCtorEq, Nat.reduceEqDiff, List.length_nil, List.length_cons, Nat.reduceAdd, Nat.reduceLT, List.set_cons_zero, List.set_cons_succ, ↓us_icourseOf, r_icourseOf, ho.facts, ho.at1 0 hlt, hpe]
    rw [hpe] at hp
    rw [show ((p + 1 : Nat) - 1 : Int) = (p : Nat) by omega, Nat.add_sub_cancel, sub_one l p (by omega)]
    refine ⟨fun _ => ⟨by omega, inR_i64 (by omega), by omega, by simp; omega, inR_i64 (by omega), UpTo.next hlt ⟨?_, hx⟩⟩, fun h => by omega⟩
    rw [take_map_succ _ 0 _ _ hlt, hpe]; rfl
  · obtain rfl : k = (coursingL l.length).length := by omega
    simp only [↓vsd, vsn, gW, qd, qv, ev, pick, argE, List.map_cons, List.map_nil, Option.map_some, Option.map_none, zipE, List.cons_append, List.nil_append, ne_eq, eq_self, forall_const, implies_true, if_true, if_false, reduceIte, List.cons.injEq, reduceCtorEq, Nat.reduceEqDiff, List.length_nil, List.length_cons, Nat.reduceAdd, Nat.reduceLT, List.set_cons_zero, List.set_cons_succ, ↓us_icourseOf, r_icourseOf, ho.facts]
    exact ⟨fun h => by omega, fun _ => ⟨hx1.trans hx, by rw [List.take_length]; rfl⟩⟩
def courseV (l : List UInt8) : Value := if IsRow l ∧ 4 ≤ l.length then .tuple ⟨[S (courseL l), .bool true]⟩ else .tuple ⟨[S [], .bool false]⟩
/-- The bells laid out after k of the course. -/
def rocM (n f : Nat) (l : List UInt8) : Nat → List UInt8
  | 0 => (List.replicate n 0).set 0 (UInt8.ofNat (48 + f))
  | k + 1 => (rocM n f l k).set ((coursingL n).getD k 0 - 1).toNat (l.getD k 0)
theorem rocM_len (n f : Nat) (l : List UInt8) (k : Nat) : (rocM n f l k).length = n := by
  induction k with
  | zero => simp [rocM]
  | succ k ih => simp [rocM, ih]
def rocV (f : Int) (l : List UInt8) : Value := if (4 ≤ l.length + 1 ∧ l.length + 1 ≤ 8) ∧ (1 ≤ f ∧ f ≤ l.length + 1) ∧ IsRow (rocM (l.length + 1) f.toNat l l.length) then .tuple ⟨[S (rocM (l.length + 1) f.toNat l l.length), .bool true]⟩ else .tuple ⟨[S [], .bool false]⟩
end Go.Proofs.Ytnocgihggdgkeaa
