/-
  Lists of texts: the laws' helpers (size, copy, comparison, marks) and lists of rows.
  Conditions: none.
-/
import Derived.Test.YtjcnmobdlkmaeaaA1
set_option linter.unusedSimpArgs false
set_option linter.unusedVariables false
set_option linter.defProp false
namespace Go.Proofs.Ytjcnmobdlkmaeaa
open Go Go.RowKit
def t_lszStringS_1 : X := (.cond (.t 11) (.seq (.reg [4] (.c (.q 4 [] (.mv (.c (.int .i64 (-1))))) .nil)) .ret) .skip)
theorem u_lszStringS_1 (P : Program) (k : KT) (e : Env) (w : World) : vcK P t_lszStringS_1 k e w = vcK P (.cond (.t 11) (.seq (.reg [4] (.c (.q 4 [] (.mv (.c (.int .i64 (-1))))) .nil)) .ret) .skip) k e w := rfl
def t_lszStringS_2 : X := (.cond (.t 15) .skip (.exit 0))
theorem u_lszStringS_2 (P : Program) (k : KT) (e : Env) (w : World) : vcK P t_lszStringS_2 k e w = vcK P (.cond (.t 15) .skip (.exit 0)) k e w := rfl
def t_lszStringS_3 : X := (.cond (.t 26) (.seq (.reg [4] (.c (.q 4 [] (.mv (.c (.int .i64 (-1))))) .nil)) .ret) .skip)
theorem u_lszStringS_3 (P : Program) (k : KT) (e : Env) (w : World) : vcK P t_lszStringS_3 k e w = vcK P (.cond (.t 26) (.seq (.reg [4] (.c (.q 4 [] (.mv (.c (.int .i64 (-1))))) .nil)) .ret) .skip) k e w := rfl
def t_lszStringS_4 : X := (.seq (.reg [0, 1, 5, 26] (.c (.q 25 [] (.mv (.t 1))) (.c (.q 26 [] (.bin .lss (.t 25) (.c (.int .i64 0)))) .nil))) t_lszStringS_3)
theorem u_lszStringS_4 (P : Program) (k : KT) (e : Env) (w : World) : vcK P t_lszStringS_4 k e w = vcK P (.seq (.reg [0, 1, 5, 26] (.c (.q 25 [] (.mv (.t 1))) (.c (.q 26 [] (.bin .lss (.t 25) (.c (.int .i64 0)))) .nil))) t_lszStringS_3) k e w := rfl
def t_lszStringS_5 : X := (.reg [0, 1, 5] (.c (.q 16 [] (.mv (.t 5))) (.c (.q 17 [] (.bin .add (.t 16) (.c (.int .i64 1)))) (.c (.q 5 [] (.mv (.t 17))) .nil))))
theorem u_lszStringS_5 (P : Program) (k : KT) (e : Env) (w : World) : vcK P t_lszStringS_5 k e w = vcK P (.reg [0, 1, 5] (.c (.q 16 [] (.mv (.t 5))) (.c (.q 17 [] (.bin .add (.t 16) (.c (.int .i64 1)))) (.c (.q 5 [] (.mv (.t 17))) .nil)))) k e w := rfl
def t_lszStringS_6 : X := (.seq (.blk 1 (.seq (.reg [0, 1, 5] (.c (.q 18 [] (.mv (.t 1))) (.c (.q 19 [] (.mv (.t 0))) (.c (.q 20 [] (.mv (.t 5))) (.c (.q 21 [] (.ia 1 (.t 19) (.t 20))) (.c (.q 22 [] (.ld (.t 21))) (.c (.q 23 [] (.len (.t 22))) (.c (.q 24 [] (.bin .sub (.t 18) (.t 23))) (.c (.q 1 [] (.mv (.t 24))) .nil))))))))) t_lszStringS_4)) t_lszStringS_5)
theorem u_lszStringS_6 (P : Program) (k : KT) (e : Env) (w : World) : vcK P t_lszStringS_6 k e w = vcK P (.seq (.blk 1 (.seq (.reg [0, 1, 5] (.c (.q 18 [] (.mv (.t 1))) (.c (.q 19 [] (.mv (.t 0))) (.c (.q 20 [] (.mv (.t 5))) (.c (.q 21 [] (.ia 1 (.t 19) (.t 20))) (.c (.q 22 [] (.ld (.t 21))) (.c (.q 23 [] (.len (.t 22))) (.c (.q 24 [] (.bin .sub (.t 18) (.t 23))) (.c (.q 1 [] (.mv (.t 24))) .nil))))))))) t_lszStringS_4)) t_lszStringS_5) k e w := rfl
def t_lszStringS_7 : X := (.seq (.seq (.reg [0, 1, 5, 15] (.c (.q 12 [] (.mv (.t 5))) (.c (.q 13 [] (.mv (.t 0))) (.c (.q 14 [] (.lens (.t 13))) (.c (.q 15 [] (.bin .lss (.t 12) (.t 14))) .nil))))) t_lszStringS_2) t_lszStringS_6)
theorem u_lszStringS_7 (P : Program) (k : KT) (e : Env) (w : World) : vcK P t_lszStringS_7 k e w = vcK P (.seq (.seq (.reg [0, 1, 5, 15] (.c (.q 12 [] (.mv (.t 5))) (.c (.q 13 [] (.mv (.t 0))) (.c (.q 14 [] (.lens (.t 13))) (.c (.q 15 [] (.bin .lss (.t 12) (.t 14))) .nil))))) t_lszStringS_2) t_lszStringS_6) k e w := rfl
def t_lszStringS_8 : X := (.blk 0 (.loop [1, 5] [0] t_lszStringS_7))
theorem u_lszStringS_8 (P : Program) (k : KT) (e : Env) (w : World) : vcK P t_lszStringS_8 k e w = vcK P (.blk 0 (.loop [1, 5] [0] t_lszStringS_7)) k e w := rfl
def t_lszStringS_9 : X := (.seq (.reg [4] (.c (.q 27 [] (.mv (.t 1))) (.c (.q 4 [] (.mv (.t 27))) .nil))) .ret)
theorem u_lszStringS_9 (P : Program) (k : KT) (e : Env) (w : World) : vcK P t_lszStringS_9 k e w = vcK P (.seq (.reg [4] (.c (.q 27 [] (.mv (.t 1))) (.c (.q 4 [] (.mv (.t 27))) .nil))) .ret) k e w := rfl
def t_lszStringS_10 : X := (.seq (.seq (.reg [0, 1, 5] (.c (.q 5 [] (.mv (.c (.int .i64 0)))) .nil)) t_lszStringS_8) t_lszStringS_9)
theorem u_lszStringS_10 (P : Program) (k : KT) (e : Env) (w : World) : vcK P t_lszStringS_10 k e w = vcK P (.seq (.seq (.reg [0, 1, 5] (.c (.q 5 [] (.mv (.c (.int .i64 0)))) .nil)) t_lszStringS_8) t_lszStringS_9) k e w := rfl
def t_lszStringS_11 : X := (.seq (.seq (.reg [0, 1, 11] (.c (.q 10 [] (.mv (.t 1))) (.c (.q 11 [] (.bin .lss (.t 10) (.c (.int .i64 0)))) .nil))) t_lszStringS_1) t_lszStringS_10)
theorem u_lszStringS_11 (P : Program) (k : KT) (e : Env) (w : World) : vcK P t_lszStringS_11 k e w = vcK P (.seq (.seq (.reg [0, 1, 11] (.c (.q 10 [] (.mv (.t 1))) (.c (.q 11 [] (.bin .lss (.t 10) (.c (.int .i64 0)))) .nil))) t_lszStringS_1) t_lszStringS_10) k e w := rfl
def t_lszStringS_12 : X := (.seq (.reg [0, 1] (.c (.q 6 [] (.mv (.t 1))) (.c (.q 7 [] (.mv (.t 0))) (.c (.q 8 [] (.lens (.t 7))) (.c (.q 9 [] (.bin .sub (.t 6) (.t 8))) (.c (.q 1 [] (.mv (.t 9))) .nil)))))) t_lszStringS_11)
theorem u_lszStringS_12 (P : Program) (k : KT) (e : Env) (w : World) : vcK P t_lszStringS_12 k e w = vcK P (.seq (.reg [0, 1] (.c (.q 6 [] (.mv (.t 1))) (.c (.q 7 [] (.mv (.t 0))) (.c (.q 8 [] (.lens (.t 7))) (.c (.q 9 [] (.bin .sub (.t 6) (.t 8))) (.c (.q 1 [] (.mv (.t 9))) .nil)))))) t_lszStringS_11) k e w := rfl
def x_lszStringS : X := (.seq (.reg [0, 1] (.c (.q 4 [] (.mv (.c (.int .i64 0)))) .nil)) t_lszStringS_12)
theorem u_lszStringS (P : Program) (k : KT) (e : Env) (w : World) : vcK P x_lszStringS k e w = vcK P (.seq (.reg [0, 1] (.c (.q 4 [] (.mv (.c (.int .i64 0)))) .nil)) t_lszStringS_12) k e w := rfl
def r_lszStringS : List XO := [(.mv (.t 4))]
theorem c_lszStringS : convF Try.prog [145, 147, 148, 149, 158, 205, 206, 232, 234, 247, 248, 256, 261, 283, 284, 299, 300, 307] Try.f176 [([0, 1], []), ([0, 1], []), ([0, 1, 11], []), ([4], []), ([0, 1, 5], []), ([1, 5], [0]), ([0, 1, 5, 15], []), ([0, 1, 5], []), ([0, 1, 5, 26], []), ([4], []), ([0, 1, 5], []), ([4], [])] = some (x_lszStringS, r_lszStringS) := by kernel_rfl
def us_lszStringS := And.intro @u_lszStringS (And.intro @u_lszStringS_1 (And.intro @u_lszStringS_2 (And.intro @u_lszStringS_3 (And.intro @u_lszStringS_4 (And.intro @u_lszStringS_5 (And.intro @u_lszStringS_6 (And.intro @u_lszStringS_7 (And.intro @u_lszStringS_8 (And.intro @u_lszStringS_9 (And.intro @u_lszStringS_10 (And.intro @u_lszStringS_11 @u_lszStringS_12)))))))))))
def t_ltoStringS_1 : X := (.cond (.t 11) .skip (.exit 0))
theorem u_ltoStringS_1 (P : Program) (k : KT) (e : Env) (w : World) : vcK P t_ltoStringS_1 k e w = vcK P (.cond (.t 11) .skip (.exit 0)) k e w := rfl
def t_ltoStringS_2 : X := (.reg [0, 3, 4] (.c (.q 12 [] (.mv (.t 4))) (.c (.q 13 [] (.bin .add (.t 12) (.c (.int .i64 1)))) (.c (.q 4 [] (.mv (.t 13))) .nil))))
theorem u_ltoStringS_2 (P : Program) (k : KT) (e : Env) (w : World) : vcK P t_ltoStringS_2 k e w = vcK P (.reg [0, 3, 4] (.c (.q 12 [] (.mv (.t 4))) (.c (.q 13 [] (.bin .add (.t 12) (.c (.int .i64 1)))) (.c (.q 4 [] (.mv (.t 13))) .nil)))) k e w := rfl
def t_ltoStringS_3 : X := (.seq (.blk 1 (.reg [0, 3, 4] (.c (.q 14 [] (.mv (.t 3))) (.c (.q 15 [] (.mv (.t 4))) (.c (.q 16 [] (.mv (.t 0))) (.c (.q 17 [] (.mv (.t 4))) (.c (.q 18 [] (.ia 1 (.t 16) (.t 17))) (.c (.q 19 [] (.ld (.t 18))) (.c (.q 20 [] (.ia 1 (.t 14) (.t 15))) (.c (.e none [] (.st 1 (.t 20) (.t 19))) .nil)))))))))) t_ltoStringS_2)
theorem u_ltoStringS_3 (P : Program) (k : KT) (e : Env) (w : World) : vcK P t_ltoStringS_3 k e w = vcK P (.seq (.blk 1 (.reg [0, 3, 4] (.c (.q 14 [] (.mv (.t 3))) (.c (.q 15 [] (.mv (.t 4))) (.c (.q 16 [] (.mv (.t 0))) (.c (.q 17 [] (.mv (.t 4))) (.c (.q 18 [] (.ia 1 (.t 16) (.t 17))) (.c (.q 19 [] (.ld (.t 18))) (.c (.q 20 [] (.ia 1 (.t 14) (.t 15))) (.c (.e none [] (.st 1 (.t 20) (.t 19))) .nil)))))))))) t_ltoStringS_2) k e w := rfl
def t_ltoStringS_4 : X := (.seq (.seq (.reg [0, 3, 4, 11] (.c (.q 8 [] (.mv (.t 4))) (.c (.q 9 [] (.mv (.t 0))) (.c (.q 10 [] (.lens (.t 9))) (.c (.q 11 [] (.bin .lss (.t 8) (.t 10))) .nil))))) t_ltoStringS_1) t_ltoStringS_3)
theorem u_ltoStringS_4 (P : Program) (k : KT) (e : Env) (w : World) : vcK P t_ltoStringS_4 k e w = vcK P (.seq (.seq (.reg [0, 3, 4, 11] (.c (.q 8 [] (.mv (.t 4))) (.c (.q 9 [] (.mv (.t 0))) (.c (.q 10 [] (.lens (.t 9))) (.c (.q 11 [] (.bin .lss (.t 8) (.t 10))) .nil))))) t_ltoStringS_1) t_ltoStringS_3) k e w := rfl
def t_ltoStringS_5 : X := (.blk 0 (.loop [4] [0, 3] t_ltoStringS_4))
theorem u_ltoStringS_5 (P : Program) (k : KT) (e : Env) (w : World) : vcK P t_ltoStringS_5 k e w = vcK P (.blk 0 (.loop [4] [0, 3] t_ltoStringS_4)) k e w := rfl
def t_ltoStringS_6 : X := (.seq (.reg [2] (.c (.q 21 [] (.mv (.t 3))) (.c (.q 2 [] (.mv (.t 21))) .nil))) .ret)
theorem u_ltoStringS_6 (P : Program) (k : KT) (e : Env) (w : World) : vcK P t_ltoStringS_6 k e w = vcK P (.seq (.reg [2] (.c (.q 21 [] (.mv (.t 3))) (.c (.q 2 [] (.mv (.t 21))) .nil))) .ret) k e w := rfl
def t_ltoStringS_7 : X := (.seq (.seq (.reg [0, 3, 4] (.c (.q 4 [] (.mv (.c (.int .i64 0)))) .nil)) t_ltoStringS_5) t_ltoStringS_6)
theorem u_ltoStringS_7 (P : Program) (k : KT) (e : Env) (w : World) : vcK P t_ltoStringS_7 k e w = vcK P (.seq (.seq (.reg [0, 3, 4] (.c (.q 4 [] (.mv (.c (.int .i64 0)))) .nil)) t_ltoStringS_5) t_ltoStringS_6) k e w := rfl
def t_ltoStringS_8 : X := (.seq (.reg [0, 3] (.c (.q 5 [] (.mv (.t 0))) (.c (.q 6 [] (.lens (.t 5))) (.c (.e (some 7) [] (.msl 42 9 1 16 [(S [])] (.t 6) (.t 6))) (.c (.q 3 [] (.mv (.t 7))) .nil))))) t_ltoStringS_7)
theorem u_ltoStringS_8 (P : Program) (k : KT) (e : Env) (w : World) : vcK P t_ltoStringS_8 k e w = vcK P (.seq (.reg [0, 3] (.c (.q 5 [] (.mv (.t 0))) (.c (.q 6 [] (.lens (.t 5))) (.c (.e (some 7) [] (.msl 42 9 1 16 [(S [])] (.t 6) (.t 6))) (.c (.q 3 [] (.mv (.t 7))) .nil))))) t_ltoStringS_7) k e w := rfl
def x_ltoStringS : X := (.seq (.reg [0] (.c (.q 2 [] (.mv (.c (.slice none 0 0)))) .nil)) t_ltoStringS_8)
theorem u_ltoStringS (P : Program) (k : KT) (e : Env) (w : World) : vcK P x_ltoStringS k e w = vcK P (.seq (.reg [0] (.c (.q 2 [] (.mv (.c (.slice none 0 0)))) .nil)) t_ltoStringS_8) k e w := rfl
def r_ltoStringS : List XO := [(.mv (.t 2))]
theorem c_ltoStringS : convF Try.prog [145, 147, 148, 149, 158, 205, 206, 232, 234, 247, 248, 256, 261, 283, 284, 299, 300, 307] Try.f182 [([0], []), ([0, 3], []), ([0, 3, 4], []), ([4], [0, 3]), ([0, 3, 4, 11], []), ([0, 3, 4], []), ([0, 3, 4], []), ([2], [])] = some (x_ltoStringS, r_ltoStringS) := by kernel_rfl
def us_ltoStringS := And.intro @u_ltoStringS (And.intro @u_ltoStringS_1 (And.intro @u_ltoStringS_2 (And.intro @u_ltoStringS_3 (And.intro @u_ltoStringS_4 (And.intro @u_ltoStringS_5 (And.intro @u_ltoStringS_6 (And.intro @u_ltoStringS_7 @u_ltoStringS_8)))))))
def t_leqStringS_1 : X := (.cond (.t 10) (.seq (.reg [4] (.c (.q 4 [] (.mv (.c (.bool false)))) .nil)) .ret) .skip)
theorem u_leqStringS_1 (P : Program) (k : KT) (e : Env) (w : World) : vcK P t_leqStringS_1 k e w = vcK P (.cond (.t 10) (.seq (.reg [4] (.c (.q 4 [] (.mv (.c (.bool false)))) .nil)) .ret) .skip) k e w := rfl
def t_leqStringS_2 : X := (.cond (.t 14) .skip (.exit 0))
theorem u_leqStringS_2 (P : Program) (k : KT) (e : Env) (w : World) : vcK P t_leqStringS_2 k e w = vcK P (.cond (.t 14) .skip (.exit 0)) k e w := rfl
def t_leqStringS_3 : X := (.cond (.t 25) (.seq (.reg [4] (.c (.q 4 [] (.mv (.c (.bool false)))) .nil)) .ret) .skip)
theorem u_leqStringS_3 (P : Program) (k : KT) (e : Env) (w : World) : vcK P t_leqStringS_3 k e w = vcK P (.cond (.t 25) (.seq (.reg [4] (.c (.q 4 [] (.mv (.c (.bool false)))) .nil)) .ret) .skip) k e w := rfl
def t_leqStringS_4 : X := (.reg [0, 1, 5] (.c (.q 15 [] (.mv (.t 5))) (.c (.q 16 [] (.bin .add (.t 15) (.c (.int .i64 1)))) (.c (.q 5 [] (.mv (.t 16))) .nil))))
theorem u_leqStringS_4 (P : Program) (k : KT) (e : Env) (w : World) : vcK P t_leqStringS_4 k e w = vcK P (.reg [0, 1, 5] (.c (.q 15 [] (.mv (.t 5))) (.c (.q 16 [] (.bin .add (.t 15) (.c (.int .i64 1)))) (.c (.q 5 [] (.mv (.t 16))) .nil)))) k e w := rfl
def t_leqStringS_5 : X := (.seq (.blk 1 (.seq (.drw [0, 1, 5, 25] (.c (.q 17 [] (.mv (.t 0))) (.c (.q 18 [] (.mv (.t 5))) (.c (.q 19 [] (.ia 1 (.t 17) (.t 18))) (.c (.q 20 [] (.ld (.t 19))) (.c (.q 21 [] (.mv (.t 1))) (.c (.q 22 [] (.mv (.t 5))) (.c (.q 23 [] (.ia 1 (.t 21) (.t 22))) (.c (.q 24 [] (.ld (.t 23))) (.c (.q 25 [] (.bin .neq (.t 20) (.t 24))) .nil)))))))))) t_leqStringS_3)) t_leqStringS_4)
theorem u_leqStringS_5 (P : Program) (k : KT) (e : Env) (w : World) : vcK P t_leqStringS_5 k e w = vcK P (.seq (.blk 1 (.seq (.drw [0, 1, 5, 25] (.c (.q 17 [] (.mv (.t 0))) (.c (.q 18 [] (.mv (.t 5))) (.c (.q 19 [] (.ia 1 (.t 17) (.t 18))) (.c (.q 20 [] (.ld (.t 19))) (.c (.q 21 [] (.mv (.t 1))) (.c (.q 22 [] (.mv (.t 5))) (.c (.q 23 [] (.ia 1 (.t 21) (.t 22))) (.c (.q 24 [] (.ld (.t 23))) (.c (.q 25 [] (.bin .neq (.t 20) (.t 24))) .nil)))))))))) t_leqStringS_3)) t_leqStringS_4) k e w := rfl
def t_leqStringS_6 : X := (.seq (.seq (.reg [0, 1, 5, 14] (.c (.q 11 [] (.mv (.t 5))) (.c (.q 12 [] (.mv (.t 0))) (.c (.q 13 [] (.lens (.t 12))) (.c (.q 14 [] (.bin .lss (.t 11) (.t 13))) .nil))))) t_leqStringS_2) t_leqStringS_5)
theorem u_leqStringS_6 (P : Program) (k : KT) (e : Env) (w : World) : vcK P t_leqStringS_6 k e w = vcK P (.seq (.seq (.reg [0, 1, 5, 14] (.c (.q 11 [] (.mv (.t 5))) (.c (.q 12 [] (.mv (.t 0))) (.c (.q 13 [] (.lens (.t 12))) (.c (.q 14 [] (.bin .lss (.t 11) (.t 13))) .nil))))) t_leqStringS_2) t_leqStringS_5) k e w := rfl
def t_leqStringS_7 : X := (.blk 0 (.loop [5] [0, 1] t_leqStringS_6))
theorem u_leqStringS_7 (P : Program) (k : KT) (e : Env) (w : World) : vcK P t_leqStringS_7 k e w = vcK P (.blk 0 (.loop [5] [0, 1] t_leqStringS_6)) k e w := rfl
def t_leqStringS_8 : X := (.seq (.reg [4] (.c (.q 4 [] (.mv (.c (.bool true)))) .nil)) .ret)
theorem u_leqStringS_8 (P : Program) (k : KT) (e : Env) (w : World) : vcK P t_leqStringS_8 k e w = vcK P (.seq (.reg [4] (.c (.q 4 [] (.mv (.c (.bool true)))) .nil)) .ret) k e w := rfl
def t_leqStringS_9 : X := (.seq (.seq (.reg [0, 1, 5] (.c (.q 5 [] (.mv (.c (.int .i64 0)))) .nil)) t_leqStringS_7) t_leqStringS_8)
theorem u_leqStringS_9 (P : Program) (k : KT) (e : Env) (w : World) : vcK P t_leqStringS_9 k e w = vcK P (.seq (.seq (.reg [0, 1, 5] (.c (.q 5 [] (.mv (.c (.int .i64 0)))) .nil)) t_leqStringS_7) t_leqStringS_8) k e w := rfl
def t_leqStringS_10 : X := (.seq (.seq (.reg [0, 1, 10] (.c (.q 6 [] (.mv (.t 0))) (.c (.q 7 [] (.lens (.t 6))) (.c (.q 8 [] (.mv (.t 1))) (.c (.q 9 [] (.lens (.t 8))) (.c (.q 10 [] (.bin .neq (.t 7) (.t 9))) .nil)))))) t_leqStringS_1) t_leqStringS_9)
theorem u_leqStringS_10 (P : Program) (k : KT) (e : Env) (w : World) : vcK P t_leqStringS_10 k e w = vcK P (.seq (.seq (.reg [0, 1, 10] (.c (.q 6 [] (.mv (.t 0))) (.c (.q 7 [] (.lens (.t 6))) (.c (.q 8 [] (.mv (.t 1))) (.c (.q 9 [] (.lens (.t 8))) (.c (.q 10 [] (.bin .neq (.t 7) (.t 9))) .nil)))))) t_leqStringS_1) t_leqStringS_9) k e w := rfl
def x_leqStringS : X := (.seq (.reg [0, 1] (.c (.q 4 [] (.mv (.c (.bool false)))) .nil)) t_leqStringS_10)
theorem u_leqStringS (P : Program) (k : KT) (e : Env) (w : World) : vcK P x_leqStringS k e w = vcK P (.seq (.reg [0, 1] (.c (.q 4 [] (.mv (.c (.bool false)))) .nil)) t_leqStringS_10) k e w := rfl
def r_leqStringS : List XO := [(.mv (.t 4))]
theorem c_leqStringS : convF Try.prog [145, 147, 148, 149, 158, 205, 206, 232, 234, 247, 248, 256, 261, 283, 284, 299, 300, 307] Try.f36 [([0, 1], []), ([0, 1, 10], []), ([4], []), ([0, 1, 5], []), ([5], [0, 1]), ([0, 1, 5, 14], []), ([0, 1, 5, 25], []), ([4], []), ([0, 1, 5], []), ([4], [])] = some (x_leqStringS, r_leqStringS) := by kernel_rfl
def us_leqStringS := And.intro @u_leqStringS (And.intro @u_leqStringS_1 (And.intro @u_leqStringS_2 (And.intro @u_leqStringS_3 (And.intro @u_leqStringS_4 (And.intro @u_leqStringS_5 (And.intro @u_leqStringS_6 (And.intro @u_leqStringS_7 (And.intro @u_leqStringS_8 (And.intro @u_leqStringS_9 @u_leqStringS_10)))))))))
def t_lmarkText_1 : X := (.cond (.t 5) (.seq (.reg [2] (.c (.q 2 [] (.mv (.s [109, 48]))) .nil)) .ret) .skip)
theorem u_lmarkText_1 (P : Program) (k : KT) (e : Env) (w : World) : vcK P t_lmarkText_1 k e w = vcK P (.cond (.t 5) (.seq (.reg [2] (.c (.q 2 [] (.mv (.s [109, 48]))) .nil)) .ret) .skip) k e w := rfl
def t_lmarkText_2 : X := (.cond (.t 7) .skip (.exit 0))
theorem u_lmarkText_2 (P : Program) (k : KT) (e : Env) (w : World) : vcK P t_lmarkText_2 k e w = vcK P (.cond (.t 7) .skip (.exit 0)) k e w := rfl
def t_lmarkText_3 : X := (.reg [0, 3] (.c (.q 16 [] (.mv (.t 0))) (.c (.q 17 [] (.bin .quo (.t 16) (.c (.int .i64 10)))) (.c (.q 0 [] (.mv (.t 17))) .nil))))
theorem u_lmarkText_3 (P : Program) (k : KT) (e : Env) (w : World) : vcK P t_lmarkText_3 k e w = vcK P (.reg [0, 3] (.c (.q 16 [] (.mv (.t 0))) (.c (.q 17 [] (.bin .quo (.t 16) (.c (.int .i64 10)))) (.c (.q 0 [] (.mv (.t 17))) .nil)))) k e w := rfl
def t_lmarkText_4 : X := (.blk 1 (.seq (.reg [0, 3] (.c (.q 8 [] (.mv (.t 0))) (.c (.q 9 [] (.bin .rem (.t 8) (.c (.int .i64 10)))) (.c (.q 10 [] (.bin .add (.c (.int .i64 48)) (.t 9))) (.c (.q 11 [] (.cvi .u8 (.t 10))) (.c (.e (some 12) [] (.bsl 5 1 [(.t 11)])) (.c (.e (some 13) [] (.b2s (.t 12))) (.c (.q 14 [] (.mv (.t 3))) (.c (.q 15 [] (.bin .add (.t 13) (.t 14))) (.c (.q 3 [] (.mv (.t 15))) .nil)))))))))) t_lmarkText_3))
theorem u_lmarkText_4 (P : Program) (k : KT) (e : Env) (w : World) : vcK P t_lmarkText_4 k e w = vcK P (.blk 1 (.seq (.reg [0, 3] (.c (.q 8 [] (.mv (.t 0))) (.c (.q 9 [] (.bin .rem (.t 8) (.c (.int .i64 10)))) (.c (.q 10 [] (.bin .add (.c (.int .i64 48)) (.t 9))) (.c (.q 11 [] (.cvi .u8 (.t 10))) (.c (.e (some 12) [] (.bsl 5 1 [(.t 11)])) (.c (.e (some 13) [] (.b2s (.t 12))) (.c (.q 14 [] (.mv (.t 3))) (.c (.q 15 [] (.bin .add (.t 13) (.t 14))) (.c (.q 3 [] (.mv (.t 15))) .nil)))))))))) t_lmarkText_3)) k e w := rfl
def t_lmarkText_5 : X := (.seq (.seq (.reg [0, 3, 7] (.c (.q 6 [] (.mv (.t 0))) (.c (.q 7 [] (.bin .gtr (.t 6) (.c (.int .i64 0)))) .nil))) t_lmarkText_2) t_lmarkText_4)
theorem u_lmarkText_5 (P : Program) (k : KT) (e : Env) (w : World) : vcK P t_lmarkText_5 k e w = vcK P (.seq (.seq (.reg [0, 3, 7] (.c (.q 6 [] (.mv (.t 0))) (.c (.q 7 [] (.bin .gtr (.t 6) (.c (.int .i64 0)))) .nil))) t_lmarkText_2) t_lmarkText_4) k e w := rfl
def t_lmarkText_6 : X := (.seq (.reg [2] (.c (.q 18 [] (.mv (.t 3))) (.c (.q 19 [] (.bin .add (.s [109]) (.t 18))) (.c (.q 2 [] (.mv (.t 19))) .nil)))) .ret)
theorem u_lmarkText_6 (P : Program) (k : KT) (e : Env) (w : World) : vcK P t_lmarkText_6 k e w = vcK P (.seq (.reg [2] (.c (.q 18 [] (.mv (.t 3))) (.c (.q 19 [] (.bin .add (.s [109]) (.t 18))) (.c (.q 2 [] (.mv (.t 19))) .nil)))) .ret) k e w := rfl
def t_lmarkText_7 : X := (.seq (.blk 0 (.loop [0, 3] [] t_lmarkText_5)) t_lmarkText_6)
theorem u_lmarkText_7 (P : Program) (k : KT) (e : Env) (w : World) : vcK P t_lmarkText_7 k e w = vcK P (.seq (.blk 0 (.loop [0, 3] [] t_lmarkText_5)) t_lmarkText_6) k e w := rfl
def t_lmarkText_8 : X := (.seq (.reg [0, 3] (.c (.q 3 [] (.mv (.s []))) .nil)) t_lmarkText_7)
theorem u_lmarkText_8 (P : Program) (k : KT) (e : Env) (w : World) : vcK P t_lmarkText_8 k e w = vcK P (.seq (.reg [0, 3] (.c (.q 3 [] (.mv (.s []))) .nil)) t_lmarkText_7) k e w := rfl
def t_lmarkText_9 : X := (.seq (.seq (.reg [0, 5] (.c (.q 4 [] (.mv (.t 0))) (.c (.q 5 [] (.bin .leq (.t 4) (.c (.int .i64 0)))) .nil))) t_lmarkText_1) t_lmarkText_8)
theorem u_lmarkText_9 (P : Program) (k : KT) (e : Env) (w : World) : vcK P t_lmarkText_9 k e w = vcK P (.seq (.seq (.reg [0, 5] (.c (.q 4 [] (.mv (.t 0))) (.c (.q 5 [] (.bin .leq (.t 4) (.c (.int .i64 0)))) .nil))) t_lmarkText_1) t_lmarkText_8) k e w := rfl
def x_lmarkText : X := (.seq (.reg [0] (.c (.q 2 [] (.mv (.s []))) .nil)) t_lmarkText_9)
theorem u_lmarkText (P : Program) (k : KT) (e : Env) (w : World) : vcK P x_lmarkText k e w = vcK P (.seq (.reg [0] (.c (.q 2 [] (.mv (.s []))) .nil)) t_lmarkText_9) k e w := rfl
def r_lmarkText : List XO := [(.mv (.t 2))]
theorem c_lmarkText : convF Try.prog [145, 147, 148, 149, 158, 205, 206, 232, 234, 247, 248, 256, 261, 283, 284, 299, 300, 307] Try.f175 [([0], []), ([0, 5], []), ([2], []), ([0, 3], []), ([0, 3], []), ([0, 3, 7], []), ([0, 3], []), ([0, 3], []), ([2], [])] = some (x_lmarkText, r_lmarkText) := by kernel_rfl
def us_lmarkText := And.intro @u_lmarkText (And.intro @u_lmarkText_1 (And.intro @u_lmarkText_2 (And.intro @u_lmarkText_3 (And.intro @u_lmarkText_4 (And.intro @u_lmarkText_5 (And.intro @u_lmarkText_6 (And.intro @u_lmarkText_7 (And.intro @u_lmarkText_8 @u_lmarkText_9))))))))
def t_lmarkStringS_1 : X := (.cond (.t 9) .skip (.exit 0))
theorem u_lmarkStringS_1 (P : Program) (k : KT) (e : Env) (w : World) : vcK P t_lmarkStringS_1 k e w = vcK P (.cond (.t 9) .skip (.exit 0)) k e w := rfl
def t_lmarkStringS_2 : X := (.reg [0, 1, 5] (.c (.q 17 [] (.mv (.t 1))) (.c (.q 18 [] (.bin .add (.t 17) (.c (.int .i64 1)))) (.c (.q 1 [] (.mv (.t 18))) .nil))))
theorem u_lmarkStringS_2 (P : Program) (k : KT) (e : Env) (w : World) : vcK P t_lmarkStringS_2 k e w = vcK P (.reg [0, 1, 5] (.c (.q 17 [] (.mv (.t 1))) (.c (.q 18 [] (.bin .add (.t 17) (.c (.int .i64 1)))) (.c (.q 1 [] (.mv (.t 18))) .nil)))) k e w := rfl
def t_lmarkStringS_3 : X := (.reg [0, 1, 5] (.c (.q 10 [] (.mv (.t 5))) (.c (.q 11 [] (.bin .add (.t 10) (.c (.int .i64 1)))) (.c (.q 5 [] (.mv (.t 11))) .nil))))
theorem u_lmarkStringS_3 (P : Program) (k : KT) (e : Env) (w : World) : vcK P t_lmarkStringS_3 k e w = vcK P (.reg [0, 1, 5] (.c (.q 10 [] (.mv (.t 5))) (.c (.q 11 [] (.bin .add (.t 10) (.c (.int .i64 1)))) (.c (.q 5 [] (.mv (.t 11))) .nil)))) k e w := rfl
def t_lmarkStringS_4 : X := (.seq (.blk 1 (.seq (.reg [0, 1, 5] (.c (.q 12 [] (.mv (.t 0))) (.c (.q 13 [] (.mv (.t 5))) (.c (.q 14 [] (.mv (.t 1))) (.c (.e (some 15) [] (.call false 175 [(.t 14)])) (.c (.q 16 [] (.ia 1 (.t 12) (.t 13))) (.c (.e none [] (.st 1 (.t 16) (.t 15))) .nil))))))) t_lmarkStringS_2)) t_lmarkStringS_3)
theorem u_lmarkStringS_4 (P : Program) (k : KT) (e : Env) (w : World) : vcK P t_lmarkStringS_4 k e w = vcK P (.seq (.blk 1 (.seq (.reg [0, 1, 5] (.c (.q 12 [] (.mv (.t 0))) (.c (.q 13 [] (.mv (.t 5))) (.c (.q 14 [] (.mv (.t 1))) (.c (.e (some 15) [] (.call false 175 [(.t 14)])) (.c (.q 16 [] (.ia 1 (.t 12) (.t 13))) (.c (.e none [] (.st 1 (.t 16) (.t 15))) .nil))))))) t_lmarkStringS_2)) t_lmarkStringS_3) k e w := rfl
def t_lmarkStringS_5 : X := (.seq (.seq (.reg [0, 1, 5, 9] (.c (.q 6 [] (.mv (.t 5))) (.c (.q 7 [] (.mv (.t 0))) (.c (.q 8 [] (.lens (.t 7))) (.c (.q 9 [] (.bin .lss (.t 6) (.t 8))) .nil))))) t_lmarkStringS_1) t_lmarkStringS_4)
theorem u_lmarkStringS_5 (P : Program) (k : KT) (e : Env) (w : World) : vcK P t_lmarkStringS_5 k e w = vcK P (.seq (.seq (.reg [0, 1, 5, 9] (.c (.q 6 [] (.mv (.t 5))) (.c (.q 7 [] (.mv (.t 0))) (.c (.q 8 [] (.lens (.t 7))) (.c (.q 9 [] (.bin .lss (.t 6) (.t 8))) .nil))))) t_lmarkStringS_1) t_lmarkStringS_4) k e w := rfl
def t_lmarkStringS_6 : X := (.blk 0 (.loop [1, 5] [0] t_lmarkStringS_5))
theorem u_lmarkStringS_6 (P : Program) (k : KT) (e : Env) (w : World) : vcK P t_lmarkStringS_6 k e w = vcK P (.blk 0 (.loop [1, 5] [0] t_lmarkStringS_5)) k e w := rfl
def t_lmarkStringS_7 : X := (.seq (.reg [4] (.c (.q 19 [] (.mv (.t 1))) (.c (.q 4 [] (.mv (.t 19))) .nil))) .ret)
theorem u_lmarkStringS_7 (P : Program) (k : KT) (e : Env) (w : World) : vcK P t_lmarkStringS_7 k e w = vcK P (.seq (.reg [4] (.c (.q 19 [] (.mv (.t 1))) (.c (.q 4 [] (.mv (.t 19))) .nil))) .ret) k e w := rfl
def t_lmarkStringS_8 : X := (.seq (.seq (.reg [0, 1, 5] (.c (.q 5 [] (.mv (.c (.int .i64 0)))) .nil)) t_lmarkStringS_6) t_lmarkStringS_7)
theorem u_lmarkStringS_8 (P : Program) (k : KT) (e : Env) (w : World) : vcK P t_lmarkStringS_8 k e w = vcK P (.seq (.seq (.reg [0, 1, 5] (.c (.q 5 [] (.mv (.c (.int .i64 0)))) .nil)) t_lmarkStringS_6) t_lmarkStringS_7) k e w := rfl
def x_lmarkStringS : X := (.seq (.reg [0, 1] (.c (.q 4 [] (.mv (.c (.int .i64 0)))) .nil)) t_lmarkStringS_8)
theorem u_lmarkStringS (P : Program) (k : KT) (e : Env) (w : World) : vcK P x_lmarkStringS k e w = vcK P (.seq (.reg [0, 1] (.c (.q 4 [] (.mv (.c (.int .i64 0)))) .nil)) t_lmarkStringS_8) k e w := rfl
def r_lmarkStringS : List XO := [(.mv (.t 4))]
theorem c_lmarkStringS : convF Try.prog [145, 147, 148, 149, 158, 205, 206, 232, 234, 247, 248, 256, 261, 283, 284, 299, 300, 307] Try.f39 [([0, 1], []), ([0, 1, 5], []), ([1, 5], [0]), ([0, 1, 5, 9], []), ([0, 1, 5], []), ([0, 1, 5], []), ([0, 1, 5], []), ([4], [])] = some (x_lmarkStringS, r_lmarkStringS) := by kernel_rfl
def us_lmarkStringS := And.intro @u_lmarkStringS (And.intro @u_lmarkStringS_1 (And.intro @u_lmarkStringS_2 (And.intro @u_lmarkStringS_3 (And.intro @u_lmarkStringS_4 (And.intro @u_lmarkStringS_5 (And.intro @u_lmarkStringS_6 (And.intro @u_lmarkStringS_7 @u_lmarkStringS_8)))))))
def t_lheldStringS_1 : X := (.cond (.t 9) .skip (.exit 0))
theorem u_lheldStringS_1 (P : Program) (k : KT) (e : Env) (w : World) : vcK P t_lheldStringS_1 k e w = vcK P (.cond (.t 9) .skip (.exit 0)) k e w := rfl
def t_lheldStringS_2 : X := (.cond (.t 18) (.seq (.reg [4] (.c (.q 4 [] (.mv (.c (.int .i64 (-1))))) .nil)) .ret) .skip)
theorem u_lheldStringS_2 (P : Program) (k : KT) (e : Env) (w : World) : vcK P t_lheldStringS_2 k e w = vcK P (.cond (.t 18) (.seq (.reg [4] (.c (.q 4 [] (.mv (.c (.int .i64 (-1))))) .nil)) .ret) .skip) k e w := rfl
def t_lheldStringS_3 : X := (.reg [0, 1, 5] (.c (.q 19 [] (.mv (.t 1))) (.c (.q 20 [] (.bin .add (.t 19) (.c (.int .i64 1)))) (.c (.q 1 [] (.mv (.t 20))) .nil))))
theorem u_lheldStringS_3 (P : Program) (k : KT) (e : Env) (w : World) : vcK P t_lheldStringS_3 k e w = vcK P (.reg [0, 1, 5] (.c (.q 19 [] (.mv (.t 1))) (.c (.q 20 [] (.bin .add (.t 19) (.c (.int .i64 1)))) (.c (.q 1 [] (.mv (.t 20))) .nil)))) k e w := rfl
def t_lheldStringS_4 : X := (.reg [0, 1, 5] (.c (.q 10 [] (.mv (.t 5))) (.c (.q 11 [] (.bin .add (.t 10) (.c (.int .i64 1)))) (.c (.q 5 [] (.mv (.t 11))) .nil))))
theorem u_lheldStringS_4 (P : Program) (k : KT) (e : Env) (w : World) : vcK P t_lheldStringS_4 k e w = vcK P (.reg [0, 1, 5] (.c (.q 10 [] (.mv (.t 5))) (.c (.q 11 [] (.bin .add (.t 10) (.c (.int .i64 1)))) (.c (.q 5 [] (.mv (.t 11))) .nil)))) k e w := rfl
def t_lheldStringS_5 : X := (.seq (.blk 1 (.seq (.seq (.drw [0, 1, 5, 18] (.c (.q 12 [] (.mv (.t 0))) (.c (.q 13 [] (.mv (.t 5))) (.c (.q 14 [] (.ia 1 (.t 12) (.t 13))) (.c (.q 15 [] (.ld (.t 14))) (.c (.q 16 [] (.mv (.t 1))) (.c (.e (some 17) [] (.call false 175 [(.t 16)])) (.c (.q 18 [] (.bin .neq (.t 15) (.t 17))) .nil)))))))) t_lheldStringS_2) t_lheldStringS_3)) t_lheldStringS_4)
theorem u_lheldStringS_5 (P : Program) (k : KT) (e : Env) (w : World) : vcK P t_lheldStringS_5 k e w = vcK P (.seq (.blk 1 (.seq (.seq (.drw [0, 1, 5, 18] (.c (.q 12 [] (.mv (.t 0))) (.c (.q 13 [] (.mv (.t 5))) (.c (.q 14 [] (.ia 1 (.t 12) (.t 13))) (.c (.q 15 [] (.ld (.t 14))) (.c (.q 16 [] (.mv (.t 1))) (.c (.e (some 17) [] (.call false 175 [(.t 16)])) (.c (.q 18 [] (.bin .neq (.t 15) (.t 17))) .nil)))))))) t_lheldStringS_2) t_lheldStringS_3)) t_lheldStringS_4) k e w := rfl
def t_lheldStringS_6 : X := (.seq (.seq (.reg [0, 1, 5, 9] (.c (.q 6 [] (.mv (.t 5))) (.c (.q 7 [] (.mv (.t 0))) (.c (.q 8 [] (.lens (.t 7))) (.c (.q 9 [] (.bin .lss (.t 6) (.t 8))) .nil))))) t_lheldStringS_1) t_lheldStringS_5)
theorem u_lheldStringS_6 (P : Program) (k : KT) (e : Env) (w : World) : vcK P t_lheldStringS_6 k e w = vcK P (.seq (.seq (.reg [0, 1, 5, 9] (.c (.q 6 [] (.mv (.t 5))) (.c (.q 7 [] (.mv (.t 0))) (.c (.q 8 [] (.lens (.t 7))) (.c (.q 9 [] (.bin .lss (.t 6) (.t 8))) .nil))))) t_lheldStringS_1) t_lheldStringS_5) k e w := rfl
def t_lheldStringS_7 : X := (.blk 0 (.loop [1, 5] [0] t_lheldStringS_6))
theorem u_lheldStringS_7 (P : Program) (k : KT) (e : Env) (w : World) : vcK P t_lheldStringS_7 k e w = vcK P (.blk 0 (.loop [1, 5] [0] t_lheldStringS_6)) k e w := rfl
def t_lheldStringS_8 : X := (.seq (.reg [4] (.c (.q 21 [] (.mv (.t 1))) (.c (.q 4 [] (.mv (.t 21))) .nil))) .ret)
theorem u_lheldStringS_8 (P : Program) (k : KT) (e : Env) (w : World) : vcK P t_lheldStringS_8 k e w = vcK P (.seq (.reg [4] (.c (.q 21 [] (.mv (.t 1))) (.c (.q 4 [] (.mv (.t 21))) .nil))) .ret) k e w := rfl
def t_lheldStringS_9 : X := (.seq (.seq (.reg [0, 1, 5] (.c (.q 5 [] (.mv (.c (.int .i64 0)))) .nil)) t_lheldStringS_7) t_lheldStringS_8)
theorem u_lheldStringS_9 (P : Program) (k : KT) (e : Env) (w : World) : vcK P t_lheldStringS_9 k e w = vcK P (.seq (.seq (.reg [0, 1, 5] (.c (.q 5 [] (.mv (.c (.int .i64 0)))) .nil)) t_lheldStringS_7) t_lheldStringS_8) k e w := rfl
def x_lheldStringS : X := (.seq (.reg [0, 1] (.c (.q 4 [] (.mv (.c (.int .i64 0)))) .nil)) t_lheldStringS_9)
theorem u_lheldStringS (P : Program) (k : KT) (e : Env) (w : World) : vcK P x_lheldStringS k e w = vcK P (.seq (.reg [0, 1] (.c (.q 4 [] (.mv (.c (.int .i64 0)))) .nil)) t_lheldStringS_9) k e w := rfl
def r_lheldStringS : List XO := [(.mv (.t 4))]
theorem c_lheldStringS : convF Try.prog [145, 147, 148, 149, 158, 205, 206, 232, 234, 247, 248, 256, 261, 283, 284, 299, 300, 307] Try.f40 [([0, 1], []), ([0, 1, 5], []), ([1, 5], [0]), ([0, 1, 5, 9], []), ([0, 1, 5, 18], []), ([4], []), ([0, 1, 5], []), ([0, 1, 5], []), ([4], [])] = some (x_lheldStringS, r_lheldStringS) := by kernel_rfl
def us_lheldStringS := And.intro @u_lheldStringS (And.intro @u_lheldStringS_1 (And.intro @u_lheldStringS_2 (And.intro @u_lheldStringS_3 (And.intro @u_lheldStringS_4 (And.intro @u_lheldStringS_5 (And.intro @u_lheldStringS_6 (And.intro @u_lheldStringS_7 (And.intro @u_lheldStringS_8 @u_lheldStringS_9))))))))
def t_iisRowOf_1 : X := (.seq (.reg [4] (.c (.q 5 [] (.mv (.t 1))) (.c (.q 6 [] (.len (.t 5))) (.c (.q 7 [] (.mv (.t 0))) (.c (.q 8 [] (.bin .eql (.t 6) (.t 7))) (.c (.q 9 [] (.mv (.t 8))) (.c (.q 10 [(9, true)] (.mv (.t 1))) (.c (.e (some 11) [(9, true)] (.call false 150 [(.t 10)])) (.c (.q 12 [] (.pick (.t 9) (.t 11) (.c (.bool false)))) (.c (.q 4 [] (.mv (.t 12))) .nil)))))))))) .ret)
theorem u_iisRowOf_1 (P : Program) (k : KT) (e : Env) (w : World) : vcK P t_iisRowOf_1 k e w = vcK P (.seq (.reg [4] (.c (.q 5 [] (.mv (.t 1))) (.c (.q 6 [] (.len (.t 5))) (.c (.q 7 [] (.mv (.t 0))) (.c (.q 8 [] (.bin .eql (.t 6) (.t 7))) (.c (.q 9 [] (.mv (.t 8))) (.c (.q 10 [(9, true)] (.mv (.t 1))) (.c (.e (some 11) [(9, true)] (.call false 150 [(.t 10)])) (.c (.q 12 [] (.pick (.t 9) (.t 11) (.c (.bool false)))) (.c (.q 4 [] (.mv (.t 12))) .nil)))))))))) .ret) k e w := rfl
def x_iisRowOf : X := (.seq (.reg [0, 1] (.c (.q 4 [] (.mv (.c (.bool false)))) .nil)) t_iisRowOf_1)
theorem u_iisRowOf (P : Program) (k : KT) (e : Env) (w : World) : vcK P x_iisRowOf k e w = vcK P (.seq (.reg [0, 1] (.c (.q 4 [] (.mv (.c (.bool false)))) .nil)) t_iisRowOf_1) k e w := rfl
def r_iisRowOf : List XO := [(.mv (.t 4))]
theorem c_iisRowOf : convF Try.prog [145, 147, 148, 149, 158, 205, 206, 232, 234, 247, 248, 256, 261, 283, 284, 299, 300, 307] Try.f154 [([0, 1], []), ([4], [])] = some (x_iisRowOf, r_iisRowOf) := by kernel_rfl
def us_iisRowOf := And.intro @u_iisRowOf @u_iisRowOf_1

theorem getD_mem {α : Type} {l : List α} {k : Nat} (d : α) (h : k < l.length) : l.getD k d ∈ l := by rw [List.getD_eq_getElem?_getD, List.getElem?_eq_getElem h]; exact List.getElem_mem h
theorem mem_take {α : Type} {l : List α} {k : Nat} {d x : α} (h : k < l.length) (hx : x ∈ l.take (k + 1)) : x ∈ l.take k ∨ x = l.getD k d := by
  rw [List.take_add_one, List.getElem?_eq_getElem h] at hx
  rcases List.mem_append.1 hx with h' | h'
  · exact .inl h'
  · rw [List.getD_eq_getElem?_getD, List.getElem?_eq_getElem h]
    exact .inr (by simpa using h')
theorem fill_set {α : Type} (l : List α) (d : α) (k : Nat) (h : k < l.length) : (l.take k ++ List.replicate (l.length - k) d).set k (l.getD k d) = l.take (k + 1) ++ List.replicate (l.length - (k + 1)) d := by
  rw [List.set_append_right _ _ (by simp; omega), List.length_take, Nat.min_eq_left (by omega), Nat.sub_self, show l.length - k = (l.length - (k + 1)) + 1 by omega, List.replicate_succ, List.set_cons_zero, List.take_add_one, List.getElem?_eq_getElem h, List.getD_eq_getElem?_getD, List.getElem?_eq_getElem h]
  simp only [Option.toList_some, Option.getD_some, List.append_assoc, List.cons_append, List.nil_append]
theorem ne_at {α : Type} {l l' : List α} {d : α} (k : Nat) (h : ¬ l.getD k d = l'.getD k d) : ¬ l = l' := fun e => h (by rw [e])
theorem eq_take {α : Type} {l l' : List α} {d : α} {k : Nat} (h : l.take k = l'.take k) (h1 : k < l.length) (h2 : k < l'.length) (e : l.getD k d = l'.getD k d) : l.take (k + 1) = l'.take (k + 1) := by
  rw [List.getD_eq_getElem?_getD, List.getD_eq_getElem?_getD, List.getElem?_eq_getElem h1, List.getElem?_eq_getElem h2, Option.getD_some, Option.getD_some] at e
  rw [List.take_add_one, List.take_add_one, h, List.getElem?_eq_getElem h1, List.getElem?_eq_getElem h2, e]
theorem eq_len {α : Type} {l l' : List α} (h : l.take l.length = l'.take l.length) (e : l.length = l'.length) : l = l' := by
  rw [List.take_length, e, List.take_length] at h; exact h

theorem lszStringS_ok (v : Value) (l : List (List UInt8)) (n : Int) (hn : 0 ≤ n ∧ n ≤ 1048576) (hl : l.length ≤ 9223372036854775807) (hs : ∀ x ∈ l, x.length ≤ 9223372036854775807) (w : World) (h : Sq fS 1 w v l) :
    Fn 176 [v, .int .i64 n] w (fun v _ => ∃ m : Int, v = .int .i64 m ∧ m ≤ 1048576 ∧ (0 ≤ m → l.length ≤ 1048576 ∧ ∀ x ∈ l, x.length ≤ 1048576)) := by
  (refine callsV_of mix Try.func176 c_lszStringS ?_; simp only [↓vsd, vsn, gW, qd, qv, ev, pick, argE, List.map_cons, List.map_nil, Option.map_some, Option.map_none, zipE, List.cons_append, List.nil_append, ne_eq, eq_self, forall_const, implies_true, if_true, if_false, reduceIte, List.cons.injEq, reduceCtorEq, Nat.reduceEqDiff, List.length_nil, List.length_cons, Nat.reduceAdd, Nat.reduceLT, List.set_cons_zero, List.set_cons_succ, ↓us_lszStringS, r_lszStringS])
  simp only [↓vsd, vsn, gW, qd, qv, ev, pick, argE, List.map_cons, List.map_nil, Option.map_some, Option.map_none, zipE, List.cons_append, List.nil_append, ne_eq, eq_self, forall_const, implies_true, if_true, if_false, reduceIte, List.cons.injEq, reduceCtorEq, Nat.reduceEqDiff, List.length_nil, List.length_cons, Nat.reduceAdd, Nat.reduceLT, List.set_cons_zero, List.set_cons_succ, ↓us_lszStringS, r_lszStringS, h.facts]
  refine ⟨inR_i64 (by omega), fun hlt => ⟨Ext.refl _, -1, rfl, by omega, fun h => by omega⟩, fun hge => ?_⟩
  refine m_upto l.length (fun k vs w' => ∃ m : Int, vs = [.int .i64 m, .int .i64 k] ∧ 0 ≤ m ∧ m ≤ 1048576 ∧ (∀ x ∈ l.take k, x.length ≤ 1048576) ∧ Ext w w') ⟨_, rfl, by omega, by omega, by simp, Ext.refl _⟩ ?_
  rintro k vs w1 hk ⟨m, rfl, h0, h1, hall, hx⟩
  have hq := h.ext hx
  by_cases hlt : k < l.length
  · have hltI : (k : Int) < l.length := by omega
    have hltJ : ¬ (l.length : Int) ≤ k := by omega
    have := hs _ (getD_mem [] hlt)
    simp only [↓vsd, vsn, gW, qd, qv, ev, pick, argE, List.map_cons, List.map_nil, Option.map_some, Option.map_none, zipE, List.cons_append, List.nil_append, ne_eq, eq_self, forall_const, implies_true, if_true, if_false, reduceIte, List.cons.injEq, reduceCtorEq, Nat.reduceEqDiff, List.length_nil, List.length_cons, Nat.reduceAdd, Nat.reduceLT, List.set_cons_zero, List.set_cons_succ, ↓us_lszStringS, r_lszStringS, hq.facts, hq.at1 [] hlt, hltI, hltJ]
    refine ⟨by omega, inR_i64 (by omega), fun _ => ⟨hx, -1, rfl, by omega, fun h => by omega⟩, fun hge2 => ⟨inR_i64 (by omega), UpTo.next hlt ⟨_, rfl, by omega, by omega, fun x hx' => ?_, hx⟩⟩⟩
    rcases mem_take (d := []) hlt hx' with h | rfl
    · exact hall x h
    · omega
  · obtain rfl : k = l.length := by omega
    have hltI : ¬ (l.length : Int) < l.length := by omega
    simp only [↓vsd, vsn, gW, qd, qv, ev, pick, argE, List.map_cons, List.map_nil, Option.map_some, Option.map_none, zipE, List.cons_append, List.nil_append, ne_eq, eq_self, forall_const, implies_true, if_true, if_false, reduceIte, List.cons.injEq, reduceCtorEq, Nat.reduceEqDiff, List.length_nil, List.length_cons, Nat.reduceAdd, Nat.reduceLT, List.set_cons_zero, List.set_cons_succ, ↓us_lszStringS, r_lszStringS, hq.facts, hltI]
    exact ⟨hx, m, rfl, h1, fun _ => ⟨by omega, by simpa using hall⟩⟩
theorem ltoStringS_ok (v : Value) (l : List (List UInt8)) (hl : l.length ≤ 1048576) (w : World) (h : Sq fS 1 w v l) : Fn 182 [v] w (fun v' w' => Own fS 1 9 w.heap.size w' v' l) := by
  (refine callsV_of mix Try.func182 c_ltoStringS ?_; simp only [↓vsd, vsn, gW, qd, qv, ev, pick, argE, List.map_cons, List.map_nil, Option.map_some, Option.map_none, zipE, List.cons_append, List.nil_append, ne_eq, eq_self, forall_const, implies_true, if_true, if_false, reduceIte, List.cons.injEq, reduceCtorEq, Nat.reduceEqDiff, List.length_nil, List.length_cons, Nat.reduceAdd, Nat.reduceLT, List.set_cons_zero, List.set_cons_succ, ↓us_ltoStringS, r_ltoStringS])
  simp only [↓vsd, vsn, gW, qd, qv, ev, pick, argE, List.map_cons, List.map_nil, Option.map_some, Option.map_none, zipE, List.cons_append, List.nil_append, ne_eq, eq_self, forall_const, implies_true, if_true, if_false, reduceIte, List.cons.injEq, reduceCtorEq, Nat.reduceEqDiff, List.length_nil, List.length_cons, Nat.reduceAdd, Nat.reduceLT, List.set_cons_zero, List.set_cons_succ, ↓us_ltoStringS, r_ltoStringS, h.facts]
  refine m_msl (f := fS) (B := w.heap.size) [] fS_len rfl (by omega) (by decide) (Nat.le_refl _) ?_
  rintro vo w1 ho1 _ hx1
  simp only [↓vsd, vsn, gW, qd, qv, ev, pick, argE, List.map_cons, List.map_nil, Option.map_some, Option.map_none, zipE, List.cons_append, List.nil_append, ne_eq, eq_self, forall_const, implies_true, if_true, if_false, reduceIte, List.cons.injEq, reduceCtorEq, Nat.reduceEqDiff, List.length_nil, List.length_cons, Nat.reduceAdd, Nat.reduceLT, List.set_cons_zero, List.set_cons_succ, ↓us_ltoStringS, r_ltoStringS]
  refine m_upto l.length (fun k vs w' => vs = [.int .i64 k] ∧ Own fS 1 9 w.heap.size w' vo (l.take k ++ List.replicate (l.length - k) []) ∧ Ext w w') ⟨rfl, by simpa using ho1, hx1⟩ ?_
  rintro k vs w2 hk ⟨rfl, ho2, hx2⟩
  have hq := h.ext hx2
  by_cases hlt : k < l.length
  · have hltI : (k : Int) < l.length := by omega
    have hltJ : ¬ (l.length : Int) ≤ k := by omega
    have hlen : (l.take k ++ List.replicate (l.length - k) ([] : List UInt8)).length = l.length := by simp; omega
    simp only [↓vsd, vsn, gW, qd, qv, ev, pick, argE, List.map_cons, List.map_nil, Option.map_some, Option.map_none, zipE, List.cons_append, List.nil_append, ne_eq, eq_self, forall_const, implies_true, if_true, if_false, reduceIte, List.cons.injEq, reduceCtorEq, Nat.reduceEqDiff, List.length_nil, List.length_cons, Nat.reduceAdd, Nat.reduceLT, List.set_cons_zero, List.set_cons_succ, ↓us_ltoStringS, r_ltoStringS, hq.facts, hq.at1 [] hlt, hltI, hltJ, ho2.sq.facts, hlen]
    refine ⟨by omega, by omega, m_set1 k (l.getD k []) ho2 rfl (by omega) rfl fS_one ?_⟩
    rintro w4 ho4 hg4 _
    simp only [↓vsd, vsn, gW, qd, qv, ev, pick, argE, List.map_cons, List.map_nil, Option.map_some, Option.map_none, zipE, List.cons_append, List.nil_append, ne_eq, eq_self, forall_const, implies_true, if_true, if_false, reduceIte, List.cons.injEq, reduceCtorEq, Nat.reduceEqDiff, List.length_nil, List.length_cons, Nat.reduceAdd, Nat.reduceLT, List.set_cons_zero, List.set_cons_succ, ↓us_ltoStringS, r_ltoStringS]
    refine ⟨inR_i64 (by omega), UpTo.next hlt ⟨rfl, ho4.to (fill_set l [] k hlt), ho2.grown hx2 (Nat.le_refl _) hg4⟩⟩
  · obtain rfl : k = l.length := by omega
    have hltI : ¬ (l.length : Int) < l.length := by omega
    simp only [↓vsd, vsn, gW, qd, qv, ev, pick, argE, List.map_cons, List.map_nil, Option.map_some, Option.map_none, zipE, List.cons_append, List.nil_append, ne_eq, eq_self, forall_const, implies_true, if_true, if_false, reduceIte, List.cons.injEq, reduceCtorEq, Nat.reduceEqDiff, List.length_nil, List.length_cons, Nat.reduceAdd, Nat.reduceLT, List.set_cons_zero, List.set_cons_succ, ↓us_ltoStringS, r_ltoStringS, hq.facts, hltI]
    exact ⟨hx2, ho2.to (by simp)⟩
theorem leqStringS_ok (v1 v2 : Value) (l1 l2 : List (List UInt8)) (w : World) (h1 : Sq fS 1 w v1 l1) (h2 : Sq fS 1 w v2 l2) (hl : l1.length ≤ 1000000000) : Fn 36 [v1, v2] w (fun v _ => v = .bool (decide (l1 = l2))) := by
  (refine callsV_of mix Try.func36 c_leqStringS ?_; simp only [↓vsd, vsn, gW, qd, qv, ev, pick, argE, List.map_cons, List.map_nil, Option.map_some, Option.map_none, zipE, List.cons_append, List.nil_append, ne_eq, eq_self, forall_const, implies_true, if_true, if_false, reduceIte, List.cons.injEq, reduceCtorEq, Nat.reduceEqDiff, List.length_nil, List.length_cons, Nat.reduceAdd, Nat.reduceLT, List.set_cons_zero, List.set_cons_succ, ↓us_leqStringS, r_leqStringS])
  simp only [↓vsd, vsn, gW, qd, qv, ev, pick, argE, List.map_cons, List.map_nil, Option.map_some, Option.map_none, zipE, List.cons_append, List.nil_append, ne_eq, eq_self, forall_const, implies_true, if_true, if_false, reduceIte, List.cons.injEq, reduceCtorEq, Nat.reduceEqDiff, List.length_nil, List.length_cons, Nat.reduceAdd, Nat.reduceLT, List.set_cons_zero, List.set_cons_succ, ↓us_leqStringS, r_leqStringS, h1.facts, h2.facts]
  refine ⟨fun hne => ⟨Ext.refl _, ?_⟩, fun he => ?_⟩
  · have : ¬ l1 = l2 := fun e => hne (by rw [e])
    simp [this]
  refine m_upto l1.length (fun k vs w' => vs = [.int .i64 k] ∧ l1.take k = l2.take k ∧ Ext w w') ⟨rfl, rfl, Ext.refl _⟩ ?_
  rintro k vs w3 hk ⟨rfl, heq, hx⟩
  have g1 := h1.ext hx
  have g2 := h2.ext hx
  by_cases hlt : k < l1.length
  · have hlt2 : k < l2.length := by omega
    have hltI : (k : Int) < l1.length := by omega
    have hltJ : ¬ (l1.length : Int) ≤ k := by omega
    simp only [↓vsd, vsn, gW, qd, qv, ev, pick, argE, List.map_cons, List.map_nil, Option.map_some, Option.map_none, zipE, List.cons_append, List.nil_append, ne_eq, eq_self, forall_const, implies_true, if_true, if_false, reduceIte, List.cons.injEq, reduceCtorEq, Nat.reduceEqDiff, List.length_nil, List.length_cons, Nat.reduceAdd, Nat.reduceLT, List.set_cons_zero, List.set_cons_succ, ↓us_leqStringS, r_leqStringS, g1.facts, g2.facts, g1.at1 [] hlt, g2.at1 [] hlt2, hltI, hltJ]
    exact ⟨by omega, by omega, fun hne => ⟨hx, by simp [ne_at k hne]⟩, fun he2 => ⟨inR_i64 (by omega), UpTo.next hlt ⟨rfl, eq_take heq hlt hlt2 he2, dr hx⟩⟩⟩
  · obtain rfl : k = l1.length := by omega
    have hltI : ¬ (l1.length : Int) < l1.length := by omega
    simp only [↓vsd, vsn, gW, qd, qv, ev, pick, argE, List.map_cons, List.map_nil, Option.map_some, Option.map_none, zipE, List.cons_append, List.nil_append, ne_eq, eq_self, forall_const, implies_true, if_true, if_false, reduceIte, List.cons.injEq, reduceCtorEq, Nat.reduceEqDiff, List.length_nil, List.length_cons, Nat.reduceAdd, Nat.reduceLT, List.set_cons_zero, List.set_cons_succ, ↓us_leqStringS, r_leqStringS, g1.facts, hltI]
    exact ⟨hx, by simp [eq_len heq (by omega)]⟩
/-- The digits of a number above 0; none for 0. -/
def digs (k : Nat) : List UInt8 := if h : k = 0 then [] else digs (k / 10) ++ [UInt8.ofNat (48 + k % 10)]
termination_by k
decreasing_by omega
/-- A mark: the letter m and the number. -/
def markL (k : Nat) : List UInt8 := if k = 0 then [109, 48] else 109 :: digs k
theorem digs_step (k : Nat) (h : 0 < k) : digs k = digs (k / 10) ++ [UInt8.ofNat (48 + k % 10)] := by
  rw [digs, dif_neg (by omega)]
theorem lmarkText_ok (k : Nat) (hk : k < 1000000000000) (w : World) : Fn 175 [.int .i64 k] w (fun v _ => v = S (markL k)) := by
  (refine callsV_of mix Try.func175 c_lmarkText ?_; simp only [↓vsd, vsn, gW, qd, qv, ev, pick, argE, List.map_cons, List.map_nil, Option.map_some, Option.map_none, zipE, List.cons_append, List.nil_append, ne_eq, eq_self, forall_const, implies_true, if_true, if_false, reduceIte, List.cons.injEq, reduceCtorEq, Nat.reduceEqDiff, List.length_nil, List.length_cons, Nat.reduceAdd, Nat.reduceLT, List.set_cons_zero, List.set_cons_succ, ↓us_lmarkText, r_lmarkText])
  refine ⟨fun h => ⟨Ext.refl _, by rw [markL, if_pos (by omega)]⟩, fun h => ?_⟩
  refine m_loop (fun m vs w' => ∃ out : List UInt8, vs = [.int .i64 m, S out] ∧ m ≤ k ∧ out.length + m ≤ k + 20 ∧ digs m ++ out = digs k ∧ Ext w w') k ⟨[], rfl, Nat.le_refl _, by simp, by simp, Ext.refl _⟩ ?_
  rintro m vs w' ⟨out, rfl, hm, hlen, hd, hx⟩
  simp only [↓vsd, vsn, gW, qd, qv, ev, pick, argE, List.map_cons, List.map_nil, Option.map_some, Option.map_none, zipE, List.cons_append, List.nil_append, ne_eq, eq_self, forall_const, implies_true, if_true, if_false, reduceIte, List.cons.injEq, reduceCtorEq, Nat.reduceEqDiff, List.length_nil, List.length_cons, Nat.reduceAdd, Nat.reduceLT, List.set_cons_zero, List.set_cons_succ, ↓us_lmarkText, r_lmarkText]
  refine ⟨fun hm0 => ⟨by decide, inR_i64 (by omega), inR_u8 (by omega), m_bsl (one_el rfl) ?_⟩, fun hm0 => ?_⟩
  · rintro b w1 hb hblk hx1 hs1
    simp only [↓vsd, vsn, gW, qd, qv, ev, pick, argE, List.map_cons, List.map_nil, Option.map_some, Option.map_none, zipE, List.cons_append, List.nil_append, ne_eq, eq_self, forall_const, implies_true, if_true, if_false, reduceIte, List.cons.injEq, reduceCtorEq, Nat.reduceEqDiff, List.length_nil, List.length_cons, Nat.reduceAdd, Nat.reduceLT, List.set_cons_zero, List.set_cons_succ, ↓us_lmarkText, r_lmarkText]
    refine m_b2s (l := [UInt8.ofNat (48 + m % 10)]) (Sq.one (f := fU) fU_len hblk (by simp [fU, UInt8.toNat_ofNat', cells_int]; omega)) ?_
    simp only [↓vsd, vsn, gW, qd, qv, ev, pick, argE, List.map_cons, List.map_nil, Option.map_some, Option.map_none, zipE, List.cons_append, List.nil_append, ne_eq, eq_self, forall_const, implies_true, if_true, if_false, reduceIte, List.cons.injEq, reduceCtorEq, Nat.reduceEqDiff, List.length_nil, List.length_cons, Nat.reduceAdd, Nat.reduceLT, List.set_cons_zero, List.set_cons_succ, ↓us_lmarkText, r_lmarkText]
    refine ⟨by omega, ⟨by decide, inR_i64 (by omega)⟩, m / 10, by omega, _, ⟨rfl, rfl⟩, by omega, by simp only [List.length_cons]; omega, ?_, hx.trans hx1⟩
    rw [← hd, digs_step m (by omega), List.append_assoc]
    rfl
  · obtain rfl : m = 0 := by omega
    refine ⟨by omega, hx, ?_⟩
    rw [markL, if_neg (by omega), ← hd, digs, dif_pos rfl]; rfl
/-- n marks from k on. -/
def marksL (k n : Nat) : List (List UInt8) := (List.range n).map fun i => markL (k + i)
theorem marksL_len (k n : Nat) : (marksL k n).length = n := by simp [marksL]
theorem marksL_get (k n i : Nat) (h : i < n) : (marksL k n).getD i [] = markL (k + i) := by
  unfold marksL
  rw [List.getD_eq_getElem?_getD, List.getElem?_map, List.getElem?_range h]; rfl
theorem marksL_succ (k n : Nat) : marksL k (n + 1) = marksL k n ++ [markL (k + n)] := by simp [marksL, List.range_succ]
theorem grown_refl (w : World) (row : Option Nat) : w.grownBy w row := ⟨rfl, rfl, rfl, Nat.le_refl _, fun _ _ _ => rfl⟩
theorem grown_trans {a b c : World} {row : Option Nat} (h : a.grownBy b row) (k : b.grownBy c row) : a.grownBy c row :=
  ⟨k.os.trans h.os, k.tape.trans h.tape, k.output.trans h.output, Nat.le_trans h.size k.size, fun i hi hr => (k.block i (Nat.lt_of_lt_of_le hi h.size) hr).trans (h.block i hi hr)⟩
theorem grown_ext {a b : World} (row : Option Nat) (h : Ext a b) : a.grownBy b row := ⟨h.os, h.tape, h.output, h.size, fun _ hi _ => h.block hi⟩
theorem set_marks (l : List (List UInt8)) (k i : Nat) (h : i < l.length) : (marksL k i ++ l.drop i).set i (markL (k + i)) = marksL k (i + 1) ++ l.drop (i + 1) := by
  rw [List.set_append_right _ _ (by rw [marksL_len]; omega), marksL_len, Nat.sub_self, List.drop_eq_getElem_cons h, List.set_cons_zero, marksL_succ, List.append_assoc]; rfl
theorem lmarkStringS_ok (v : Value) (l : List (List UInt8)) (B k : Nat) (hl : l.length ≤ 1000000000) (hk : k ≤ 1000000000) (w : World) (h : Own fS 1 9 B w v l) :
    CallsV Try.prog 39 [v, .int .i64 k] w (fun v' w' => v' = .int .i64 (k + l.length : Nat) ∧ Own fS 1 9 B w' v (marksL k l.length) ∧ w.grownBy w' v.ownBlock) := by
  (refine callsV_of mix Try.func39 c_lmarkStringS ?_; simp only [↓vsd, vsn, gW, qd, qv, ev, pick, argE, List.map_cons, List.map_nil, Option.map_some, Option.map_none, zipE, List.cons_append, List.nil_append, ne_eq, eq_self, forall_const, implies_true, if_true, if_false, reduceIte, List.cons.injEq, reduceCtorEq, Nat.reduceEqDiff, List.length_nil, List.length_cons, Nat.reduceAdd, Nat.reduceLT, List.set_cons_zero, List.set_cons_succ, ↓us_lmarkStringS, r_lmarkStringS])
  refine m_upto l.length (fun i vs w' => vs = [.int .i64 (k + i : Nat), .int .i64 i] ∧ Own fS 1 9 B w' v (marksL k i ++ l.drop i) ∧ w.grownBy w' v.ownBlock) ⟨rfl, h.to (by simp [marksL]), grown_refl _ _⟩ ?_
  rintro i vs w1 hi ⟨rfl, ho, hg⟩
  have hlen : (marksL k i ++ l.drop i).length = l.length := by simp [marksL_len]; omega
  by_cases hlt : i < l.length
  · have hltI : (i : Int) < l.length := by omega
    have hltJ : ¬ (l.length : Int) ≤ i := by omega
    simp only [↓vsd, vsn, gW, qd, qv, ev, pick, argE, List.map_cons, List.map_nil, Option.map_some, Option.map_none, zipE, List.cons_append, List.nil_append, ne_eq, eq_self, forall_const, implies_true, if_true, if_false, reduceIte, List.cons.injEq, reduceCtorEq, Nat.reduceEqDiff, List.length_nil, List.length_cons, Nat.reduceAdd, Nat.reduceLT, List.set_cons_zero, List.set_cons_succ, ↓us_lmarkStringS, r_lmarkStringS, ho.sq.facts, hlen, hltI, hltJ]
    refine m_call (lmarkText_ok (k + i) (by omega) _) ?_
    rintro _ w2 hx2 rfl
    have ho2 := ho.ext hx2
    simp only [↓vsd, vsn, gW, qd, qv, ev, pick, argE, List.map_cons, List.map_nil, Option.map_some, Option.map_none, zipE, List.cons_append, List.nil_append, ne_eq, eq_self, forall_const, implies_true, if_true, if_false, reduceIte, List.cons.injEq, reduceCtorEq, Nat.reduceEqDiff, List.length_nil, List.length_cons, Nat.reduceAdd, Nat.reduceLT, List.set_cons_zero, List.set_cons_succ, ↓us_lmarkStringS, r_lmarkStringS, ho2.sq.facts, hlen, hltI, hltJ]
    refine ⟨by omega, m_set1 i (markL (k + i)) ho2 rfl (by omega) rfl fS_one ?_⟩
    rintro w3 ho3 hg3 _
    simp only [↓vsd, vsn, gW, qd, qv, ev, pick, argE, List.map_cons, List.map_nil, Option.map_some, Option.map_none, zipE, List.cons_append, List.nil_append, ne_eq, eq_self, forall_const, implies_true, if_true, if_false, reduceIte, List.cons.injEq, reduceCtorEq, Nat.reduceEqDiff, List.length_nil, List.length_cons, Nat.reduceAdd, Nat.reduceLT, List.set_cons_zero, List.set_cons_succ, ↓us_lmarkStringS, r_lmarkStringS]
    exact ⟨inR_i64 (by omega), inR_i64 (by omega), UpTo.next hlt ⟨rfl, ho3.to (set_marks l k i hlt), grown_trans (grown_trans hg (grown_ext _ hx2)) hg3⟩⟩
  · obtain rfl : i = l.length := by omega
    have hltI : ¬ (l.length : Int) < l.length := by omega
    simp only [↓vsd, vsn, gW, qd, qv, ev, pick, argE, List.map_cons, List.map_nil, Option.map_some, Option.map_none, zipE, List.cons_append, List.nil_append, ne_eq, eq_self, forall_const, implies_true, if_true, if_false, reduceIte, List.cons.injEq, reduceCtorEq, Nat.reduceEqDiff, List.length_nil, List.length_cons, Nat.reduceAdd, Nat.reduceLT, List.set_cons_zero, List.set_cons_succ, ↓us_lmarkStringS, r_lmarkStringS, ho.sq.facts, hlen, hltI]
    exact ⟨ho.to (by simp), hg⟩
theorem lheldStringS_ok (v : Value) (n k : Nat) (hl : n ≤ 1000000000) (hk : k ≤ 1000000000) (w : World) (h : Sq fS 1 w v (marksL k n)) :
    Fn 40 [v, .int .i64 k] w (fun v' w' => v' = .int .i64 (k + n : Nat)) := by
  (refine callsV_of mix Try.func40 c_lheldStringS ?_; simp only [↓vsd, vsn, gW, qd, qv, ev, pick, argE, List.map_cons, List.map_nil, Option.map_some, Option.map_none, zipE, List.cons_append, List.nil_append, ne_eq, eq_self, forall_const, implies_true, if_true, if_false, reduceIte, List.cons.injEq, reduceCtorEq, Nat.reduceEqDiff, List.length_nil, List.length_cons, Nat.reduceAdd, Nat.reduceLT, List.set_cons_zero, List.set_cons_succ, ↓us_lheldStringS, r_lheldStringS])
  refine m_upto n (fun i vs w' => vs = [.int .i64 (k + i : Nat), .int .i64 i] ∧ Ext w w') ⟨rfl, Ext.refl _⟩ ?_
  rintro i vs w1 hi ⟨rfl, hx⟩
  have hq := h.ext hx
  by_cases hlt : i < n
  · have hltI : (i : Int) < n := by omega
    have hltJ : ¬ (n : Int) ≤ i := by omega
    have hlt' : i < (marksL k n).length := by rw [marksL_len]; exact hlt
    have ha := hq.at1 [] hlt'
    have hgt := marksL_get k n i hlt
    simp only [↓vsd, vsn, gW, qd, qv, ev, pick, argE, List.map_cons, List.map_nil, Option.map_some, Option.map_none, zipE, List.cons_append, List.nil_append, ne_eq, eq_self, forall_const, implies_true, if_true, if_false, reduceIte, List.cons.injEq, reduceCtorEq, Nat.reduceEqDiff, List.length_nil, List.length_cons, Nat.reduceAdd, Nat.reduceLT, List.set_cons_zero, List.set_cons_succ, ↓us_lheldStringS, r_lheldStringS, hq.facts, marksL_len, hltI, hltJ, ha, hgt]
    refine ⟨by omega, m_call (lmarkText_ok (k + i) (by omega) _) ?_⟩
    rintro _ w2 hx2 rfl
    simp only [↓vsd, vsn, gW, qd, qv, ev, pick, argE, List.map_cons, List.map_nil, Option.map_some, Option.map_none, zipE, List.cons_append, List.nil_append, ne_eq, eq_self, forall_const, implies_true, if_true, if_false, reduceIte, List.cons.injEq, reduceCtorEq, Nat.reduceEqDiff, List.length_nil, List.length_cons, Nat.reduceAdd, Nat.reduceLT, List.set_cons_zero, List.set_cons_succ, ↓us_lheldStringS, r_lheldStringS]
    exact ⟨inR_i64 (by omega), inR_i64 (by omega), UpTo.next hlt ⟨rfl, hx.trans (ud hx2)⟩⟩
  · obtain rfl : i = n := by omega
    have hltI : ¬ (i : Int) < i := by omega
    simp only [↓vsd, vsn, gW, qd, qv, ev, pick, argE, List.map_cons, List.map_nil, Option.map_some, Option.map_none, zipE, List.cons_append, List.nil_append, ne_eq, eq_self, forall_const, implies_true, if_true, if_false, reduceIte, List.cons.injEq, reduceCtorEq, Nat.reduceEqDiff, List.length_nil, List.length_cons, Nat.reduceAdd, Nat.reduceLT, List.set_cons_zero, List.set_cons_succ, ↓us_lheldStringS, r_lheldStringS, hq.facts, marksL_len, hltI]
    exact hx
def IsRows (l : List (List UInt8)) : Prop := (∀ r ∈ l, IsRow r ∧ r.length = (l.getD 0 []).length) ∧ l.length ≤ 800
instance (l : List (List UInt8)) : Decidable (IsRows l) := by unfold IsRows; infer_instance
theorem iisRowOf_ok (n : Int) (l : List UInt8) (w : World) : Fn 154 [.int .i64 n, S l] w (fun v _ => v = .bool (decide ((l.length : Int) = n) && decide (IsRow l))) := by
  (refine callsV_of mix Try.func154 c_iisRowOf ?_; simp only [↓vsd, vsn, gW, qd, qv, ev, pick, argE, List.map_cons, List.map_nil, Option.map_some, Option.map_none, zipE, List.cons_append, List.nil_append, ne_eq, eq_self, forall_const, implies_true, if_true, if_false, reduceIte, List.cons.injEq, reduceCtorEq, Nat.reduceEqDiff, List.length_nil, List.length_cons, Nat.reduceAdd, Nat.reduceLT, List.set_cons_zero, List.set_cons_succ, ↓us_iisRowOf, r_iisRowOf])
  refine ⟨fun he => m_call (iGoodRow_ok _ _) ?_, fun hne => ⟨Ext.refl _, by simp [hne]⟩⟩
  rintro _ w1 hx rfl
  simp only [↓vsd, vsn, gW, qd, qv, ev, pick, argE, List.map_cons, List.map_nil, Option.map_some, Option.map_none, zipE, List.cons_append, List.nil_append, ne_eq, eq_self, forall_const, implies_true, if_true, if_false, reduceIte, List.cons.injEq, reduceCtorEq, Nat.reduceEqDiff, List.length_nil, List.length_cons, Nat.reduceAdd, Nat.reduceLT, List.set_cons_zero, List.set_cons_succ, ↓us_iisRowOf, r_iisRowOf]
  exact hx
end Go.Proofs.Ytjcnmobdlkmaeaa
