/-
  Regular methods; the calls of the laws FnExactIsRegular and FnExactTurnOf.
  Conditions: none.
-/
import Derived.Test.YtjcnmobdlkmaeaaA11
set_option linter.unusedSimpArgs false
set_option linter.unusedVariables false
set_option linter.defProp false
namespace Go.Proofs.Ytjcnmobdlkmaeaa
open Go Go.RowKit
def t_iisLarge_1 : X := (.seq (.reg [2] (.c (.q 3 [] (.lda 3 (.t 1))) (.c (.e (some 4) [] (.call false 188 [(.t 3)])) (.c (.q 5 [] (.mv (.t 4))) (.c (.q 6 [(5, true)] (.fa 1 (.t 1))) (.c (.q 7 [(5, true)] (.ld (.t 6))) (.c (.q 8 [(5, true)] (.bin .geq (.t 7) (.c (.int .i64 4)))) (.c (.q 9 [] (.pick (.t 5) (.t 8) (.c (.bool false)))) (.c (.q 2 [] (.mv (.t 9))) .nil))))))))) .ret)
theorem u_iisLarge_1 (P : Program) (k : KT) (e : Env) (w : World) : vcK P t_iisLarge_1 k e w = vcK P (.seq (.reg [2] (.c (.q 3 [] (.lda 3 (.t 1))) (.c (.e (some 4) [] (.call false 188 [(.t 3)])) (.c (.q 5 [] (.mv (.t 4))) (.c (.q 6 [(5, true)] (.fa 1 (.t 1))) (.c (.q 7 [(5, true)] (.ld (.t 6))) (.c (.q 8 [(5, true)] (.bin .geq (.t 7) (.c (.int .i64 4)))) (.c (.q 9 [] (.pick (.t 5) (.t 8) (.c (.bool false)))) (.c (.q 2 [] (.mv (.t 9))) .nil))))))))) .ret) k e w := rfl
def x_iisLarge : X := (.seq (.reg [1] (.c (.e (some 1) [] (.box 58 (.t 0))) (.c (.q 2 [] (.mv (.c (.bool false)))) .nil))) t_iisLarge_1)
theorem u_iisLarge (P : Program) (k : KT) (e : Env) (w : World) : vcK P x_iisLarge k e w = vcK P (.seq (.reg [1] (.c (.e (some 1) [] (.box 58 (.t 0))) (.c (.q 2 [] (.mv (.c (.bool false)))) .nil))) t_iisLarge_1) k e w := rfl
def r_iisLarge : List XO := [(.mv (.t 2))]
theorem c_iisLarge : convF Try.prog [145, 147, 148, 149, 158, 205, 206, 232, 234, 247, 248, 256, 261, 283, 284, 299, 300, 307] Try.f183 [([1], []), ([2], [])] = some (x_iisLarge, r_iisLarge) := by kernel_rfl
def us_iisLarge := And.intro @u_iisLarge @u_iisLarge_1
def t_sl15Good_1 : X := (.seq (.reg [2] (.c (.q 3 [] (.lda 3 (.t 1))) (.c (.e (some 4) [] (.call false 191 [(.t 3)])) (.c (.q 5 [] (.mv (.t 4))) (.c (.q 6 [(5, true)] (.fa 1 (.t 1))) (.c (.q 7 [(5, true)] (.ld (.t 6))) (.c (.q 8 [(5, true)] (.bin .geq (.t 7) (.c (.int .i64 4)))) (.c (.q 9 [] (.pick (.t 5) (.t 8) (.c (.bool false)))) (.c (.q 2 [] (.mv (.t 9))) .nil))))))))) .ret)
theorem u_sl15Good_1 (P : Program) (k : KT) (e : Env) (w : World) : vcK P t_sl15Good_1 k e w = vcK P (.seq (.reg [2] (.c (.q 3 [] (.lda 3 (.t 1))) (.c (.e (some 4) [] (.call false 191 [(.t 3)])) (.c (.q 5 [] (.mv (.t 4))) (.c (.q 6 [(5, true)] (.fa 1 (.t 1))) (.c (.q 7 [(5, true)] (.ld (.t 6))) (.c (.q 8 [(5, true)] (.bin .geq (.t 7) (.c (.int .i64 4)))) (.c (.q 9 [] (.pick (.t 5) (.t 8) (.c (.bool false)))) (.c (.q 2 [] (.mv (.t 9))) .nil))))))))) .ret) k e w := rfl
def x_sl15Good : X := (.seq (.reg [1] (.c (.e (some 1) [] (.box 58 (.t 0))) (.c (.q 2 [] (.mv (.c (.bool false)))) .nil))) t_sl15Good_1)
theorem u_sl15Good (P : Program) (k : KT) (e : Env) (w : World) : vcK P x_sl15Good k e w = vcK P (.seq (.reg [1] (.c (.e (some 1) [] (.box 58 (.t 0))) (.c (.q 2 [] (.mv (.c (.bool false)))) .nil))) t_sl15Good_1) k e w := rfl
def r_sl15Good : List XO := [(.mv (.t 2))]
theorem c_sl15Good : convF Try.prog [145, 147, 148, 149, 158, 205, 206, 232, 234, 247, 248, 256, 261, 283, 284, 299, 300, 307] Try.f177 [([1], []), ([2], [])] = some (x_sl15Good, r_sl15Good) := by kernel_rfl
def us_sl15Good := And.intro @u_sl15Good @u_sl15Good_1
def t_iturnOf_1 : X := (.cond (.t 18) .skip (.exit 0))
theorem u_iturnOf_1 (P : Program) (k : KT) (e : Env) (w : World) : vcK P t_iturnOf_1 k e w = vcK P (.cond (.t 18) .skip (.exit 0)) k e w := rfl
def t_iturnOf_2 : X := (.cond (.t 34) (.seq (.reg [2] (.c (.q 35 [] (.mv (.t 6))) (.c (.q 2 [] (.mv (.t 35))) .nil))) .ret) .skip)
theorem u_iturnOf_2 (P : Program) (k : KT) (e : Env) (w : World) : vcK P t_iturnOf_2 k e w = vcK P (.cond (.t 34) (.seq (.reg [2] (.c (.q 35 [] (.mv (.t 6))) (.c (.q 2 [] (.mv (.t 35))) .nil))) .ret) .skip) k e w := rfl
def t_iturnOf_3 : X := (.reg [3, 4, 5, 6] (.c (.q 19 [] (.mv (.t 6))) (.c (.q 20 [] (.bin .add (.t 19) (.c (.int .i64 1)))) (.c (.q 6 [] (.mv (.t 20))) .nil))))
theorem u_iturnOf_3 (P : Program) (k : KT) (e : Env) (w : World) : vcK P t_iturnOf_3 k e w = vcK P (.reg [3, 4, 5, 6] (.c (.q 19 [] (.mv (.t 6))) (.c (.q 20 [] (.bin .add (.t 19) (.c (.int .i64 1)))) (.c (.q 6 [] (.mv (.t 20))) .nil)))) k e w := rfl
def t_iturnOf_4 : X := (.seq (.blk 1 (.seq (.drw [3, 4, 5, 6, 34] (.c (.q 21 [] (.mv (.t 3))) (.c (.q 22 [] (.idx (.t 21) (.c (.int .i64 0)))) (.c (.q 23 [] (.bin .eql (.t 22) (.c (.int .u8 49)))) (.c (.q 24 [] (.mv (.t 23))) (.c (.q 25 [(24, true)] (.mv (.t 4))) (.c (.q 26 [(24, true)] (.mv (.t 5))) (.c (.q 27 [(24, true)] (.mv (.t 6))) (.c (.q 28 [(24, true)] (.sub (.t 26) (some (.t 27)) none)) (.c (.q 29 [(24, true)] (.mv (.t 5))) (.c (.q 30 [(24, true)] (.mv (.t 6))) (.c (.q 31 [(24, true)] (.sub (.t 29) none (some (.t 30)))) (.c (.q 32 [(24, true)] (.bin .add (.t 28) (.t 31))) (.c (.q 33 [(24, true)] (.bin .eql (.t 25) (.t 32))) (.c (.q 34 [] (.pick (.t 24) (.t 33) (.c (.bool false)))) .nil))))))))))))))) t_iturnOf_2)) t_iturnOf_3)
theorem u_iturnOf_4 (P : Program) (k : KT) (e : Env) (w : World) : vcK P t_iturnOf_4 k e w = vcK P (.seq (.blk 1 (.seq (.drw [3, 4, 5, 6, 34] (.c (.q 21 [] (.mv (.t 3))) (.c (.q 22 [] (.idx (.t 21) (.c (.int .i64 0)))) (.c (.q 23 [] (.bin .eql (.t 22) (.c (.int .u8 49)))) (.c (.q 24 [] (.mv (.t 23))) (.c (.q 25 [(24, true)] (.mv (.t 4))) (.c (.q 26 [(24, true)] (.mv (.t 5))) (.c (.q 27 [(24, true)] (.mv (.t 6))) (.c (.q 28 [(24, true)] (.sub (.t 26) (some (.t 27)) none)) (.c (.q 29 [(24, true)] (.mv (.t 5))) (.c (.q 30 [(24, true)] (.mv (.t 6))) (.c (.q 31 [(24, true)] (.sub (.t 29) none (some (.t 30)))) (.c (.q 32 [(24, true)] (.bin .add (.t 28) (.t 31))) (.c (.q 33 [(24, true)] (.bin .eql (.t 25) (.t 32))) (.c (.q 34 [] (.pick (.t 24) (.t 33) (.c (.bool false)))) .nil))))))))))))))) t_iturnOf_2)) t_iturnOf_3) k e w := rfl
def t_iturnOf_5 : X := (.seq (.seq (.reg [3, 4, 5, 6, 18] (.c (.q 15 [] (.mv (.t 6))) (.c (.q 16 [] (.mv (.t 5))) (.c (.q 17 [] (.len (.t 16))) (.c (.q 18 [] (.bin .lss (.t 15) (.t 17))) .nil))))) t_iturnOf_1) t_iturnOf_4)
theorem u_iturnOf_5 (P : Program) (k : KT) (e : Env) (w : World) : vcK P t_iturnOf_5 k e w = vcK P (.seq (.seq (.reg [3, 4, 5, 6, 18] (.c (.q 15 [] (.mv (.t 6))) (.c (.q 16 [] (.mv (.t 5))) (.c (.q 17 [] (.len (.t 16))) (.c (.q 18 [] (.bin .lss (.t 15) (.t 17))) .nil))))) t_iturnOf_1) t_iturnOf_4) k e w := rfl
def t_iturnOf_6 : X := (.blk 0 (.loop [6] [3, 4, 5] t_iturnOf_5))
theorem u_iturnOf_6 (P : Program) (k : KT) (e : Env) (w : World) : vcK P t_iturnOf_6 k e w = vcK P (.blk 0 (.loop [6] [3, 4, 5] t_iturnOf_5)) k e w := rfl
def t_iturnOf_7 : X := (.seq (.reg [2] (.c (.q 2 [] (.mv (.c (.int .i64 0)))) .nil)) .ret)
theorem u_iturnOf_7 (P : Program) (k : KT) (e : Env) (w : World) : vcK P t_iturnOf_7 k e w = vcK P (.seq (.reg [2] (.c (.q 2 [] (.mv (.c (.int .i64 0)))) .nil)) .ret) k e w := rfl
def t_iturnOf_8 : X := (.seq (.seq (.reg [3, 4, 5, 6] (.c (.q 6 [] (.mv (.c (.int .i64 1)))) .nil)) t_iturnOf_6) t_iturnOf_7)
theorem u_iturnOf_8 (P : Program) (k : KT) (e : Env) (w : World) : vcK P t_iturnOf_8 k e w = vcK P (.seq (.seq (.reg [3, 4, 5, 6] (.c (.q 6 [] (.mv (.c (.int .i64 1)))) .nil)) t_iturnOf_6) t_iturnOf_7) k e w := rfl
def t_iturnOf_9 : X := (.seq (.drw [3, 4, 5] (.c (.q 9 [] (.mv (.t 3))) (.c (.q 11 [] (.fa 1 (.t 1))) (.c (.q 12 [] (.ld (.t 11))) (.c (.e (some 10) [] (.call false 185 [(.t 9)])) (.c (.e (some 13) [] (.call false 161 [(.t 12)])) (.c (.e (some 14) [] (.call false 185 [(.t 13)])) (.c (.q 4 [] (.mv (.t 10))) (.c (.q 5 [] (.mv (.t 14))) .nil))))))))) t_iturnOf_8)
theorem u_iturnOf_9 (P : Program) (k : KT) (e : Env) (w : World) : vcK P t_iturnOf_9 k e w = vcK P (.seq (.drw [3, 4, 5] (.c (.q 9 [] (.mv (.t 3))) (.c (.q 11 [] (.fa 1 (.t 1))) (.c (.q 12 [] (.ld (.t 11))) (.c (.e (some 10) [] (.call false 185 [(.t 9)])) (.c (.e (some 13) [] (.call false 161 [(.t 12)])) (.c (.e (some 14) [] (.call false 185 [(.t 13)])) (.c (.q 4 [] (.mv (.t 10))) (.c (.q 5 [] (.mv (.t 14))) .nil))))))))) t_iturnOf_8) k e w := rfl
def t_iturnOf_10 : X := (.seq (.reg [1, 3] (.c (.q 7 [] (.lda 3 (.t 1))) (.c (.e (some 8) [] (.call false 190 [(.t 7)])) (.c (.q 3 [] (.mv (.t 8))) .nil)))) t_iturnOf_9)
theorem u_iturnOf_10 (P : Program) (k : KT) (e : Env) (w : World) : vcK P t_iturnOf_10 k e w = vcK P (.seq (.reg [1, 3] (.c (.q 7 [] (.lda 3 (.t 1))) (.c (.e (some 8) [] (.call false 190 [(.t 7)])) (.c (.q 3 [] (.mv (.t 8))) .nil)))) t_iturnOf_9) k e w := rfl
def x_iturnOf : X := (.seq (.reg [1] (.c (.e (some 1) [] (.box 58 (.t 0))) (.c (.q 2 [] (.mv (.c (.int .i64 0)))) .nil))) t_iturnOf_10)
theorem u_iturnOf (P : Program) (k : KT) (e : Env) (w : World) : vcK P x_iturnOf k e w = vcK P (.seq (.reg [1] (.c (.e (some 1) [] (.box 58 (.t 0))) (.c (.q 2 [] (.mv (.c (.int .i64 0)))) .nil))) t_iturnOf_10) k e w := rfl
def r_iturnOf : List XO := [(.mv (.t 2))]
theorem c_iturnOf : convF Try.prog [145, 147, 148, 149, 158, 205, 206, 232, 234, 247, 248, 256, 261, 283, 284, 299, 300, 307] Try.f253 [([1], []), ([1, 3], []), ([3, 4, 5], []), ([3, 4, 5, 6], []), ([6], [3, 4, 5]), ([3, 4, 5, 6, 18], []), ([3, 4, 5, 6, 34], []), ([2], []), ([3, 4, 5, 6], []), ([2], [])] = some (x_iturnOf, r_iturnOf) := by kernel_rfl
def us_iturnOf := And.intro @u_iturnOf (And.intro @u_iturnOf_1 (And.intro @u_iturnOf_2 (And.intro @u_iturnOf_3 (And.intro @u_iturnOf_4 (And.intro @u_iturnOf_5 (And.intro @u_iturnOf_6 (And.intro @u_iturnOf_7 (And.intro @u_iturnOf_8 (And.intro @u_iturnOf_9 @u_iturnOf_10)))))))))
def t_sl15Turn_1 : X := (.cond (.t 15) .skip (.exit 0))
theorem u_sl15Turn_1 (P : Program) (k : KT) (e : Env) (w : World) : vcK P t_sl15Turn_1 k e w = vcK P (.cond (.t 15) .skip (.exit 0)) k e w := rfl
def t_sl15Turn_2 : X := (.cond (.t 32) (.seq (.reg [2] (.c (.q 33 [] (.mv (.t 5))) (.c (.q 2 [] (.mv (.t 33))) .nil))) .ret) .skip)
theorem u_sl15Turn_2 (P : Program) (k : KT) (e : Env) (w : World) : vcK P t_sl15Turn_2 k e w = vcK P (.cond (.t 32) (.seq (.reg [2] (.c (.q 33 [] (.mv (.t 5))) (.c (.q 2 [] (.mv (.t 33))) .nil))) .ret) .skip) k e w := rfl
def t_sl15Turn_3 : X := (.reg [3, 4, 5] (.c (.q 16 [] (.mv (.t 5))) (.c (.q 17 [] (.bin .add (.t 16) (.c (.int .i64 1)))) (.c (.q 5 [] (.mv (.t 17))) .nil))))
theorem u_sl15Turn_3 (P : Program) (k : KT) (e : Env) (w : World) : vcK P t_sl15Turn_3 k e w = vcK P (.reg [3, 4, 5] (.c (.q 16 [] (.mv (.t 5))) (.c (.q 17 [] (.bin .add (.t 16) (.c (.int .i64 1)))) (.c (.q 5 [] (.mv (.t 17))) .nil)))) k e w := rfl
def t_sl15Turn_4 : X := (.seq (.blk 1 (.seq (.drw [3, 4, 5, 32] (.c (.q 18 [] (.mv (.t 3))) (.c (.q 19 [] (.idx (.t 18) (.c (.int .i64 0)))) (.c (.q 20 [] (.bin .eql (.t 19) (.c (.int .u8 49)))) (.c (.q 21 [] (.mv (.t 20))) (.c (.q 22 [(21, true)] (.mv (.t 3))) (.c (.q 24 [(21, true)] (.mv (.t 4))) (.c (.q 25 [(21, true)] (.mv (.t 5))) (.c (.q 26 [(21, true)] (.sub (.t 24) (some (.t 25)) none)) (.c (.q 27 [(21, true)] (.mv (.t 4))) (.c (.q 28 [(21, true)] (.mv (.t 5))) (.c (.q 29 [(21, true)] (.sub (.t 27) none (some (.t 28)))) (.c (.q 30 [(21, true)] (.bin .add (.t 26) (.t 29))) (.c (.e (some 23) [(21, true)] (.call false 179 [(.t 22)])) (.c (.q 31 [(21, true)] (.bin .eql (.t 23) (.t 30))) (.c (.q 32 [] (.pick (.t 21) (.t 31) (.c (.bool false)))) .nil)))))))))))))))) t_sl15Turn_2)) t_sl15Turn_3)
theorem u_sl15Turn_4 (P : Program) (k : KT) (e : Env) (w : World) : vcK P t_sl15Turn_4 k e w = vcK P (.seq (.blk 1 (.seq (.drw [3, 4, 5, 32] (.c (.q 18 [] (.mv (.t 3))) (.c (.q 19 [] (.idx (.t 18) (.c (.int .i64 0)))) (.c (.q 20 [] (.bin .eql (.t 19) (.c (.int .u8 49)))) (.c (.q 21 [] (.mv (.t 20))) (.c (.q 22 [(21, true)] (.mv (.t 3))) (.c (.q 24 [(21, true)] (.mv (.t 4))) (.c (.q 25 [(21, true)] (.mv (.t 5))) (.c (.q 26 [(21, true)] (.sub (.t 24) (some (.t 25)) none)) (.c (.q 27 [(21, true)] (.mv (.t 4))) (.c (.q 28 [(21, true)] (.mv (.t 5))) (.c (.q 29 [(21, true)] (.sub (.t 27) none (some (.t 28)))) (.c (.q 30 [(21, true)] (.bin .add (.t 26) (.t 29))) (.c (.e (some 23) [(21, true)] (.call false 179 [(.t 22)])) (.c (.q 31 [(21, true)] (.bin .eql (.t 23) (.t 30))) (.c (.q 32 [] (.pick (.t 21) (.t 31) (.c (.bool false)))) .nil)))))))))))))))) t_sl15Turn_2)) t_sl15Turn_3) k e w := rfl
def t_sl15Turn_5 : X := (.seq (.seq (.reg [3, 4, 5, 15] (.c (.q 12 [] (.mv (.t 5))) (.c (.q 13 [] (.mv (.t 4))) (.c (.q 14 [] (.len (.t 13))) (.c (.q 15 [] (.bin .lss (.t 12) (.t 14))) .nil))))) t_sl15Turn_1) t_sl15Turn_4)
theorem u_sl15Turn_5 (P : Program) (k : KT) (e : Env) (w : World) : vcK P t_sl15Turn_5 k e w = vcK P (.seq (.seq (.reg [3, 4, 5, 15] (.c (.q 12 [] (.mv (.t 5))) (.c (.q 13 [] (.mv (.t 4))) (.c (.q 14 [] (.len (.t 13))) (.c (.q 15 [] (.bin .lss (.t 12) (.t 14))) .nil))))) t_sl15Turn_1) t_sl15Turn_4) k e w := rfl
def t_sl15Turn_6 : X := (.blk 0 (.loop [5] [3, 4] t_sl15Turn_5))
theorem u_sl15Turn_6 (P : Program) (k : KT) (e : Env) (w : World) : vcK P t_sl15Turn_6 k e w = vcK P (.blk 0 (.loop [5] [3, 4] t_sl15Turn_5)) k e w := rfl
def t_sl15Turn_7 : X := (.seq (.reg [2] (.c (.q 2 [] (.mv (.c (.int .i64 0)))) .nil)) .ret)
theorem u_sl15Turn_7 (P : Program) (k : KT) (e : Env) (w : World) : vcK P t_sl15Turn_7 k e w = vcK P (.seq (.reg [2] (.c (.q 2 [] (.mv (.c (.int .i64 0)))) .nil)) .ret) k e w := rfl
def t_sl15Turn_8 : X := (.seq (.seq (.reg [3, 4, 5] (.c (.q 5 [] (.mv (.c (.int .i64 1)))) .nil)) t_sl15Turn_6) t_sl15Turn_7)
theorem u_sl15Turn_8 (P : Program) (k : KT) (e : Env) (w : World) : vcK P t_sl15Turn_8 k e w = vcK P (.seq (.seq (.reg [3, 4, 5] (.c (.q 5 [] (.mv (.c (.int .i64 1)))) .nil)) t_sl15Turn_6) t_sl15Turn_7) k e w := rfl
def t_sl15Turn_9 : X := (.seq (.reg [3, 4] (.c (.q 8 [] (.fa 1 (.t 1))) (.c (.q 9 [] (.ld (.t 8))) (.c (.e (some 10) [] (.call false 180 [(.t 9)])) (.c (.e (some 11) [] (.call false 179 [(.t 10)])) (.c (.q 4 [] (.mv (.t 11))) .nil)))))) t_sl15Turn_8)
theorem u_sl15Turn_9 (P : Program) (k : KT) (e : Env) (w : World) : vcK P t_sl15Turn_9 k e w = vcK P (.seq (.reg [3, 4] (.c (.q 8 [] (.fa 1 (.t 1))) (.c (.q 9 [] (.ld (.t 8))) (.c (.e (some 10) [] (.call false 180 [(.t 9)])) (.c (.e (some 11) [] (.call false 179 [(.t 10)])) (.c (.q 4 [] (.mv (.t 11))) .nil)))))) t_sl15Turn_8) k e w := rfl
def t_sl15Turn_10 : X := (.seq (.reg [1, 3] (.c (.q 6 [] (.lda 3 (.t 1))) (.c (.e (some 7) [] (.call false 199 [(.t 6)])) (.c (.q 3 [] (.mv (.t 7))) .nil)))) t_sl15Turn_9)
theorem u_sl15Turn_10 (P : Program) (k : KT) (e : Env) (w : World) : vcK P t_sl15Turn_10 k e w = vcK P (.seq (.reg [1, 3] (.c (.q 6 [] (.lda 3 (.t 1))) (.c (.e (some 7) [] (.call false 199 [(.t 6)])) (.c (.q 3 [] (.mv (.t 7))) .nil)))) t_sl15Turn_9) k e w := rfl
def x_sl15Turn : X := (.seq (.reg [1] (.c (.e (some 1) [] (.box 58 (.t 0))) (.c (.q 2 [] (.mv (.c (.int .i64 0)))) .nil))) t_sl15Turn_10)
theorem u_sl15Turn (P : Program) (k : KT) (e : Env) (w : World) : vcK P x_sl15Turn k e w = vcK P (.seq (.reg [1] (.c (.e (some 1) [] (.box 58 (.t 0))) (.c (.q 2 [] (.mv (.c (.int .i64 0)))) .nil))) t_sl15Turn_10) k e w := rfl
def r_sl15Turn : List XO := [(.mv (.t 2))]
theorem c_sl15Turn : convF Try.prog [145, 147, 148, 149, 158, 205, 206, 232, 234, 247, 248, 256, 261, 283, 284, 299, 300, 307] Try.f254 [([1], []), ([1, 3], []), ([3, 4], []), ([3, 4, 5], []), ([5], [3, 4]), ([3, 4, 5, 15], []), ([3, 4, 5, 32], []), ([2], []), ([3, 4, 5], []), ([2], [])] = some (x_sl15Turn, r_sl15Turn) := by kernel_rfl
def us_sl15Turn := And.intro @u_sl15Turn (And.intro @u_sl15Turn_1 (And.intro @u_sl15Turn_2 (And.intro @u_sl15Turn_3 (And.intro @u_sl15Turn_4 (And.intro @u_sl15Turn_5 (And.intro @u_sl15Turn_6 (And.intro @u_sl15Turn_7 (And.intro @u_sl15Turn_8 (And.intro @u_sl15Turn_9 @u_sl15Turn_10)))))))))
def t_iIsRegular_1 : X := (.cond (.t 6) (.seq (.reg [2, 3] (.c (.q 2 [] (.mv (.c (.bool false)))) (.c (.q 3 [] (.mv (.c (.bool false)))) .nil))) .ret) .skip)
theorem u_iIsRegular_1 (P : Program) (k : KT) (e : Env) (w : World) : vcK P t_iIsRegular_1 k e w = vcK P (.cond (.t 6) (.seq (.reg [2, 3] (.c (.q 2 [] (.mv (.c (.bool false)))) (.c (.q 3 [] (.mv (.c (.bool false)))) .nil))) .ret) .skip) k e w := rfl
def t_iIsRegular_2 : X := (.seq (.reg [2, 3] (.c (.q 7 [] (.lda 3 (.t 1))) (.c (.e (some 8) [] (.call false 253 [(.t 7)])) (.c (.q 9 [] (.bin .gtr (.t 8) (.c (.int .i64 0)))) (.c (.q 2 [] (.mv (.t 9))) (.c (.q 3 [] (.mv (.c (.bool true)))) .nil)))))) .ret)
theorem u_iIsRegular_2 (P : Program) (k : KT) (e : Env) (w : World) : vcK P t_iIsRegular_2 k e w = vcK P (.seq (.reg [2, 3] (.c (.q 7 [] (.lda 3 (.t 1))) (.c (.e (some 8) [] (.call false 253 [(.t 7)])) (.c (.q 9 [] (.bin .gtr (.t 8) (.c (.int .i64 0)))) (.c (.q 2 [] (.mv (.t 9))) (.c (.q 3 [] (.mv (.c (.bool true)))) .nil)))))) .ret) k e w := rfl
def t_iIsRegular_3 : X := (.seq (.seq (.reg [1, 6] (.c (.q 4 [] (.lda 3 (.t 1))) (.c (.e (some 5) [] (.call false 183 [(.t 4)])) (.c (.q 6 [] (.not (.t 5))) .nil)))) t_iIsRegular_1) t_iIsRegular_2)
theorem u_iIsRegular_3 (P : Program) (k : KT) (e : Env) (w : World) : vcK P t_iIsRegular_3 k e w = vcK P (.seq (.seq (.reg [1, 6] (.c (.q 4 [] (.lda 3 (.t 1))) (.c (.e (some 5) [] (.call false 183 [(.t 4)])) (.c (.q 6 [] (.not (.t 5))) .nil)))) t_iIsRegular_1) t_iIsRegular_2) k e w := rfl
def x_iIsRegular : X := (.seq (.reg [1] (.c (.e (some 1) [] (.box 58 (.t 0))) (.c (.q 2 [] (.mv (.c (.bool false)))) (.c (.q 3 [] (.mv (.c (.bool false)))) .nil)))) t_iIsRegular_3)
theorem u_iIsRegular (P : Program) (k : KT) (e : Env) (w : World) : vcK P x_iIsRegular k e w = vcK P (.seq (.reg [1] (.c (.e (some 1) [] (.box 58 (.t 0))) (.c (.q 2 [] (.mv (.c (.bool false)))) (.c (.q 3 [] (.mv (.c (.bool false)))) .nil)))) t_iIsRegular_3) k e w := rfl
def r_iIsRegular : List XO := [(.mv (.t 2)), (.mv (.t 3))]
theorem c_iIsRegular : convF Try.prog [145, 147, 148, 149, 158, 205, 206, 232, 234, 247, 248, 256, 261, 283, 284, 299, 300, 307] Try.f120 [([1], []), ([1, 6], []), ([2, 3], []), ([2, 3], [])] = some (x_iIsRegular, r_iIsRegular) := by kernel_rfl
def us_iIsRegular := And.intro @u_iIsRegular (And.intro @u_iIsRegular_1 (And.intro @u_iIsRegular_2 @u_iIsRegular_3))
def t_sIsRegular_1 : X := (.cond (.t 6) (.seq (.reg [2, 3] (.c (.q 2 [] (.mv (.c (.bool false)))) (.c (.q 3 [] (.mv (.c (.bool false)))) .nil))) .ret) .skip)
theorem u_sIsRegular_1 (P : Program) (k : KT) (e : Env) (w : World) : vcK P t_sIsRegular_1 k e w = vcK P (.cond (.t 6) (.seq (.reg [2, 3] (.c (.q 2 [] (.mv (.c (.bool false)))) (.c (.q 3 [] (.mv (.c (.bool false)))) .nil))) .ret) .skip) k e w := rfl
def t_sIsRegular_2 : X := (.seq (.reg [2, 3] (.c (.q 7 [] (.lda 3 (.t 1))) (.c (.e (some 8) [] (.call false 254 [(.t 7)])) (.c (.q 9 [] (.bin .gtr (.t 8) (.c (.int .i64 0)))) (.c (.q 2 [] (.mv (.t 9))) (.c (.q 3 [] (.mv (.c (.bool true)))) .nil)))))) .ret)
theorem u_sIsRegular_2 (P : Program) (k : KT) (e : Env) (w : World) : vcK P t_sIsRegular_2 k e w = vcK P (.seq (.reg [2, 3] (.c (.q 7 [] (.lda 3 (.t 1))) (.c (.e (some 8) [] (.call false 254 [(.t 7)])) (.c (.q 9 [] (.bin .gtr (.t 8) (.c (.int .i64 0)))) (.c (.q 2 [] (.mv (.t 9))) (.c (.q 3 [] (.mv (.c (.bool true)))) .nil)))))) .ret) k e w := rfl
def t_sIsRegular_3 : X := (.seq (.seq (.reg [1, 6] (.c (.q 4 [] (.lda 3 (.t 1))) (.c (.e (some 5) [] (.call false 177 [(.t 4)])) (.c (.q 6 [] (.not (.t 5))) .nil)))) t_sIsRegular_1) t_sIsRegular_2)
theorem u_sIsRegular_3 (P : Program) (k : KT) (e : Env) (w : World) : vcK P t_sIsRegular_3 k e w = vcK P (.seq (.seq (.reg [1, 6] (.c (.q 4 [] (.lda 3 (.t 1))) (.c (.e (some 5) [] (.call false 177 [(.t 4)])) (.c (.q 6 [] (.not (.t 5))) .nil)))) t_sIsRegular_1) t_sIsRegular_2) k e w := rfl
def x_sIsRegular : X := (.seq (.reg [1] (.c (.e (some 1) [] (.box 58 (.t 0))) (.c (.q 2 [] (.mv (.c (.bool false)))) (.c (.q 3 [] (.mv (.c (.bool false)))) .nil)))) t_sIsRegular_3)
theorem u_sIsRegular (P : Program) (k : KT) (e : Env) (w : World) : vcK P x_sIsRegular k e w = vcK P (.seq (.reg [1] (.c (.e (some 1) [] (.box 58 (.t 0))) (.c (.q 2 [] (.mv (.c (.bool false)))) (.c (.q 3 [] (.mv (.c (.bool false)))) .nil)))) t_sIsRegular_3) k e w := rfl
def r_sIsRegular : List XO := [(.mv (.t 2)), (.mv (.t 3))]
theorem c_sIsRegular : convF Try.prog [145, 147, 148, 149, 158, 205, 206, 232, 234, 247, 248, 256, 261, 283, 284, 299, 300, 307] Try.f121 [([1], []), ([1, 6], []), ([2, 3], []), ([2, 3], [])] = some (x_sIsRegular, r_sIsRegular) := by kernel_rfl
def us_sIsRegular := And.intro @u_sIsRegular (And.intro @u_sIsRegular_1 (And.intro @u_sIsRegular_2 @u_sIsRegular_3))
def t_iTurnOf_1 : X := (.cond (.t 11) (.seq (.reg [2, 3] (.c (.q 2 [] (.mv (.c (.int .i64 0)))) (.c (.q 3 [] (.mv (.c (.bool false)))) .nil))) .ret) .skip)
theorem u_iTurnOf_1 (P : Program) (k : KT) (e : Env) (w : World) : vcK P t_iTurnOf_1 k e w = vcK P (.cond (.t 11) (.seq (.reg [2, 3] (.c (.q 2 [] (.mv (.c (.int .i64 0)))) (.c (.q 3 [] (.mv (.c (.bool false)))) .nil))) .ret) .skip) k e w := rfl
def t_iTurnOf_2 : X := (.seq (.reg [2, 3] (.c (.q 12 [] (.lda 3 (.t 1))) (.c (.e (some 13) [] (.call false 253 [(.t 12)])) (.c (.q 2 [] (.mv (.t 13))) (.c (.q 3 [] (.mv (.c (.bool true)))) .nil))))) .ret)
theorem u_iTurnOf_2 (P : Program) (k : KT) (e : Env) (w : World) : vcK P t_iTurnOf_2 k e w = vcK P (.seq (.reg [2, 3] (.c (.q 12 [] (.lda 3 (.t 1))) (.c (.e (some 13) [] (.call false 253 [(.t 12)])) (.c (.q 2 [] (.mv (.t 13))) (.c (.q 3 [] (.mv (.c (.bool true)))) .nil))))) .ret) k e w := rfl
def t_iTurnOf_3 : X := (.seq (.seq (.reg [1, 11] (.c (.q 4 [] (.lda 3 (.t 1))) (.c (.e (some 5) [] (.call false 183 [(.t 4)])) (.c (.q 6 [] (.not (.t 5))) (.c (.q 7 [] (.mv (.t 6))) (.c (.q 8 [(7, false)] (.lda 3 (.t 1))) (.c (.e (some 9) [(7, false)] (.call false 253 [(.t 8)])) (.c (.q 10 [(7, false)] (.bin .eql (.t 9) (.c (.int .i64 0)))) (.c (.q 11 [] (.pick (.t 7) (.c (.bool true)) (.t 10))) .nil))))))))) t_iTurnOf_1) t_iTurnOf_2)
theorem u_iTurnOf_3 (P : Program) (k : KT) (e : Env) (w : World) : vcK P t_iTurnOf_3 k e w = vcK P (.seq (.seq (.reg [1, 11] (.c (.q 4 [] (.lda 3 (.t 1))) (.c (.e (some 5) [] (.call false 183 [(.t 4)])) (.c (.q 6 [] (.not (.t 5))) (.c (.q 7 [] (.mv (.t 6))) (.c (.q 8 [(7, false)] (.lda 3 (.t 1))) (.c (.e (some 9) [(7, false)] (.call false 253 [(.t 8)])) (.c (.q 10 [(7, false)] (.bin .eql (.t 9) (.c (.int .i64 0)))) (.c (.q 11 [] (.pick (.t 7) (.c (.bool true)) (.t 10))) .nil))))))))) t_iTurnOf_1) t_iTurnOf_2) k e w := rfl
def x_iTurnOf : X := (.seq (.reg [1] (.c (.e (some 1) [] (.box 58 (.t 0))) (.c (.q 2 [] (.mv (.c (.int .i64 0)))) (.c (.q 3 [] (.mv (.c (.bool false)))) .nil)))) t_iTurnOf_3)
theorem u_iTurnOf (P : Program) (k : KT) (e : Env) (w : World) : vcK P x_iTurnOf k e w = vcK P (.seq (.reg [1] (.c (.e (some 1) [] (.box 58 (.t 0))) (.c (.q 2 [] (.mv (.c (.int .i64 0)))) (.c (.q 3 [] (.mv (.c (.bool false)))) .nil)))) t_iTurnOf_3) k e w := rfl
def r_iTurnOf : List XO := [(.mv (.t 2)), (.mv (.t 3))]
theorem c_iTurnOf : convF Try.prog [145, 147, 148, 149, 158, 205, 206, 232, 234, 247, 248, 256, 261, 283, 284, 299, 300, 307] Try.f118 [([1], []), ([1, 11], []), ([2, 3], []), ([2, 3], [])] = some (x_iTurnOf, r_iTurnOf) := by kernel_rfl
def us_iTurnOf := And.intro @u_iTurnOf (And.intro @u_iTurnOf_1 (And.intro @u_iTurnOf_2 @u_iTurnOf_3))
def t_sTurnOf_1 : X := (.cond (.t 11) (.seq (.reg [2, 3] (.c (.q 2 [] (.mv (.c (.int .i64 0)))) (.c (.q 3 [] (.mv (.c (.bool false)))) .nil))) .ret) .skip)
theorem u_sTurnOf_1 (P : Program) (k : KT) (e : Env) (w : World) : vcK P t_sTurnOf_1 k e w = vcK P (.cond (.t 11) (.seq (.reg [2, 3] (.c (.q 2 [] (.mv (.c (.int .i64 0)))) (.c (.q 3 [] (.mv (.c (.bool false)))) .nil))) .ret) .skip) k e w := rfl
def t_sTurnOf_2 : X := (.seq (.reg [2, 3] (.c (.q 12 [] (.lda 3 (.t 1))) (.c (.e (some 13) [] (.call false 254 [(.t 12)])) (.c (.q 2 [] (.mv (.t 13))) (.c (.q 3 [] (.mv (.c (.bool true)))) .nil))))) .ret)
theorem u_sTurnOf_2 (P : Program) (k : KT) (e : Env) (w : World) : vcK P t_sTurnOf_2 k e w = vcK P (.seq (.reg [2, 3] (.c (.q 12 [] (.lda 3 (.t 1))) (.c (.e (some 13) [] (.call false 254 [(.t 12)])) (.c (.q 2 [] (.mv (.t 13))) (.c (.q 3 [] (.mv (.c (.bool true)))) .nil))))) .ret) k e w := rfl
def t_sTurnOf_3 : X := (.seq (.seq (.reg [1, 11] (.c (.q 4 [] (.lda 3 (.t 1))) (.c (.e (some 5) [] (.call false 177 [(.t 4)])) (.c (.q 6 [] (.not (.t 5))) (.c (.q 7 [] (.mv (.t 6))) (.c (.q 8 [(7, false)] (.lda 3 (.t 1))) (.c (.e (some 9) [(7, false)] (.call false 254 [(.t 8)])) (.c (.q 10 [(7, false)] (.bin .eql (.t 9) (.c (.int .i64 0)))) (.c (.q 11 [] (.pick (.t 7) (.c (.bool true)) (.t 10))) .nil))))))))) t_sTurnOf_1) t_sTurnOf_2)
theorem u_sTurnOf_3 (P : Program) (k : KT) (e : Env) (w : World) : vcK P t_sTurnOf_3 k e w = vcK P (.seq (.seq (.reg [1, 11] (.c (.q 4 [] (.lda 3 (.t 1))) (.c (.e (some 5) [] (.call false 177 [(.t 4)])) (.c (.q 6 [] (.not (.t 5))) (.c (.q 7 [] (.mv (.t 6))) (.c (.q 8 [(7, false)] (.lda 3 (.t 1))) (.c (.e (some 9) [(7, false)] (.call false 254 [(.t 8)])) (.c (.q 10 [(7, false)] (.bin .eql (.t 9) (.c (.int .i64 0)))) (.c (.q 11 [] (.pick (.t 7) (.c (.bool true)) (.t 10))) .nil))))))))) t_sTurnOf_1) t_sTurnOf_2) k e w := rfl
def x_sTurnOf : X := (.seq (.reg [1] (.c (.e (some 1) [] (.box 58 (.t 0))) (.c (.q 2 [] (.mv (.c (.int .i64 0)))) (.c (.q 3 [] (.mv (.c (.bool false)))) .nil)))) t_sTurnOf_3)
theorem u_sTurnOf (P : Program) (k : KT) (e : Env) (w : World) : vcK P x_sTurnOf k e w = vcK P (.seq (.reg [1] (.c (.e (some 1) [] (.box 58 (.t 0))) (.c (.q 2 [] (.mv (.c (.int .i64 0)))) (.c (.q 3 [] (.mv (.c (.bool false)))) .nil)))) t_sTurnOf_3) k e w := rfl
def r_sTurnOf : List XO := [(.mv (.t 2)), (.mv (.t 3))]
theorem c_sTurnOf : convF Try.prog [145, 147, 148, 149, 158, 205, 206, 232, 234, 247, 248, 256, 261, 283, 284, 299, 300, 307] Try.f119 [([1], []), ([1, 11], []), ([2, 3], []), ([2, 3], [])] = some (x_sTurnOf, r_sTurnOf) := by kernel_rfl
def us_sTurnOf := And.intro @u_sTurnOf (And.intro @u_sTurnOf_1 (And.intro @u_sTurnOf_2 @u_sTurnOf_3))

/-- A valid method of stage 4 or more. -/
def IsLarge (nm : List UInt8) (st : Int) (cs : List (List UInt8)) : Prop := IsMethod nm st cs ∧ 4 ≤ st
instance (nm : List UInt8) (st : Int) (cs : List (List UInt8)) : Decidable (IsLarge nm st cs) := by unfold IsLarge; infer_instance
/-- The lead head turns the coursing order by n. -/
def TurnsBy (st : Nat) (h : List UInt8) (n : Nat) : Prop := h.getD 0 0 = 49 ∧ courseL h = (courseL (roundsL st)).drop n ++ (courseL (roundsL st)).take n
instance (st : Nat) (h : List UInt8) (n : Nat) : Decidable (TurnsBy st h n) := by unfold TurnsBy; infer_instance
/-- By how many bells, from n on; k: how many are left. -/
def turnGo (st : Nat) (h : List UInt8) : Nat → Nat → Nat
  | 0, _ => 0
  | k + 1, n => if TurnsBy st h n then n else turnGo st h k (n + 1)
def turnN (st : Nat) (h : List UInt8) : Nat := turnGo st h (st - 2) 1
theorem iisLarge_ok (nm : List UInt8) (st : Int) (v : Value) (cs : List (List UInt8)) (hnm : nm.length ≤ 1048576) (hs : ∀ c ∈ cs, c.length ≤ 1048576) (hl : cs.length ≤ 1000000000) (w : World) (h : Sq fS 1 w v cs) : Fn 183 [mV nm st v] w (fun r _ => r = .bool (decide (IsLarge nm st cs))) := by
  (refine callsV_of mix Try.func183 c_iisLarge ?_; simp only [↓vsd, vsn, gW, qd, qv, ev, pick, argE, List.map_cons, List.map_nil, Option.map_some, Option.map_none, zipE, List.cons_append, List.nil_append, ne_eq, eq_self, forall_const, implies_true, if_true, if_false, reduceIte, List.cons.injEq, reduceCtorEq, Nat.reduceEqDiff, List.length_nil, List.length_cons, Nat.reduceAdd, Nat.reduceLT, List.set_cons_zero, List.set_cons_succ, ↓us_iisLarge, r_iisLarge])
  refine m_al ?_
  rintro b w1 hb hblk hx1 hs1
  have h1 : Blk w1 b (fM nm st v) 58 := hblk
  have hq1 := h.ext hx1
  simp only [↓vsd, vsn, gW, qd, qv, ev, pick, argE, List.map_cons, List.map_nil, Option.map_some, Option.map_none, zipE, List.cons_append, List.nil_append, ne_eq, eq_self, forall_const, implies_true, if_true, if_false, reduceIte, List.cons.injEq, reduceCtorEq, Nat.reduceEqDiff, List.length_nil, List.length_cons, Nat.reduceAdd, Nat.reduceLT, List.set_cons_zero, List.set_cons_succ, ↓us_iisLarge, r_iisLarge, h1.facts, fMg]
  refine m_call (iGoodMethod_ok nm st v cs hnm hs hl _ hq1) ?_
  rintro _ w2 hx2 rfl
  have h2 := h1.ext hx2
  simp only [↓vsd, vsn, gW, qd, qv, ev, pick, argE, List.map_cons, List.map_nil, Option.map_some, Option.map_none, zipE, List.cons_append, List.nil_append, ne_eq, eq_self, forall_const, implies_true, if_true, if_false, reduceIte, List.cons.injEq, reduceCtorEq, Nat.reduceEqDiff, List.length_nil, List.length_cons, Nat.reduceAdd, Nat.reduceLT, List.set_cons_zero, List.set_cons_succ, ↓us_iisLarge, r_iisLarge, h2.facts, fMg]
  refine ⟨hx1.trans hx2, ?_⟩
  simp only [← Bool.decide_and]
  rfl
theorem sl15Good_ok (nm : List UInt8) (st : Int) (v : Value) (cs : List (List UInt8)) (hnm : nm.length ≤ 1048576) (hs : ∀ c ∈ cs, c.length ≤ 1048576) (hl : cs.length ≤ 1000000000) (w : World) (h : Sq fS 1 w v cs) : Fn 177 [mV nm st v] w (fun r _ => r = .bool (decide (IsLarge nm st cs))) := by
  (refine callsV_of mix Try.func177 c_sl15Good ?_; simp only [↓vsd, vsn, gW, qd, qv, ev, pick, argE, List.map_cons, List.map_nil, Option.map_some, Option.map_none, zipE, List.cons_append, List.nil_append, ne_eq, eq_self, forall_const, implies_true, if_true, if_false, reduceIte, List.cons.injEq, reduceCtorEq, Nat.reduceEqDiff, List.length_nil, List.length_cons, Nat.reduceAdd, Nat.reduceLT, List.set_cons_zero, List.set_cons_succ, ↓us_sl15Good, r_sl15Good])
  refine m_al ?_
  rintro b w1 hb hblk hx1 hs1
  have h1 : Blk w1 b (fM nm st v) 58 := hblk
  have hq1 := h.ext hx1
  simp only [↓vsd, vsn, gW, qd, qv, ev, pick, argE, List.map_cons, List.map_nil, Option.map_some, Option.map_none, zipE, List.cons_append, List.nil_append, ne_eq, eq_self, forall_const, implies_true, if_true, if_false, reduceIte, List.cons.injEq, reduceCtorEq, Nat.reduceEqDiff, List.length_nil, List.length_cons, Nat.reduceAdd, Nat.reduceLT, List.set_cons_zero, List.set_cons_succ, ↓us_sl15Good, r_sl15Good, h1.facts, fMg]
  refine m_call (sl4Good_ok nm st v cs hnm hs hl _ hq1) ?_
  rintro _ w2 hx2 rfl
  have h2 := h1.ext hx2
  simp only [↓vsd, vsn, gW, qd, qv, ev, pick, argE, List.map_cons, List.map_nil, Option.map_some, Option.map_none, zipE, List.cons_append, List.nil_append, ne_eq, eq_self, forall_const, implies_true, if_true, if_false, reduceIte, List.cons.injEq, reduceCtorEq, Nat.reduceEqDiff, List.length_nil, List.length_cons, Nat.reduceAdd, Nat.reduceLT, List.set_cons_zero, List.set_cons_succ, ↓us_sl15Good, r_sl15Good, h2.facts, fMg]
  refine ⟨hx1.trans hx2, ?_⟩
  simp only [← Bool.decide_and]
  rfl
theorem iturnOf_ok (nm : List UInt8) (st : Nat) (v : Value) (cs : List (List UInt8)) (hm : IsLarge nm st cs) (w : World) (h : Sq fS 1 w v cs) : Fn 253 [mV nm st v] w (fun r _ => r = .int .i64 (turnN st (underL (roundsL st) cs) : Nat)) := by
  (refine callsV_of mix Try.func253 c_iturnOf ?_; simp only [↓vsd, vsn, gW, qd, qv, ev, pick, argE, List.map_cons, List.map_nil, Option.map_some, Option.map_none, zipE, List.cons_append, List.nil_append, ne_eq, eq_self, forall_const, implies_true, if_true, if_false, reduceIte, List.cons.injEq, reduceCtorEq, Nat.reduceEqDiff, List.length_nil, List.length_cons, Nat.reduceAdd, Nat.reduceLT, List.set_cons_zero, List.set_cons_succ, ↓us_iturnOf, r_iturnOf])
  refine m_al ?_
  rintro b w1 hb hblk hx1 hs1
  have h1 : Blk w1 b (fM nm st v) 58 := hblk
  have hq1 := h.ext hx1
  simp only [↓vsd, vsn, gW, qd, qv, ev, pick, argE, List.map_cons, List.map_nil, Option.map_some, Option.map_none, zipE, List.cons_append, List.nil_append, ne_eq, eq_self, forall_const, implies_true, if_true, if_false, reduceIte, List.cons.injEq, reduceCtorEq, Nat.reduceEqDiff, List.length_nil, List.length_cons, Nat.reduceAdd, Nat.reduceLT, List.set_cons_zero, List.set_cons_succ, ↓us_iturnOf, r_iturnOf, h1.facts, fMg]
  have hst := hm.1.2.1
  have h4 := hm.2
  refine m_call (ileadHead_ok nm st v cs hm.1 _ hq1) ?_
  rintro _ w2 hx2 rfl
  have h2 := h1.ext hx2
  rw [Int.toNat_natCast]
  have hlen : (underL (roundsL st) cs).length = st := by rw [underL_len, roundsL_len]
  generalize underL (roundsL st) cs = hd at *
  simp only [↓vsd, vsn, gW, qd, qv, ev, pick, argE, List.map_cons, List.map_nil, Option.map_some, Option.map_none, zipE, List.cons_append, List.nil_append, ne_eq, eq_self, forall_const, implies_true, if_true, if_false, reduceIte, List.cons.injEq, reduceCtorEq, Nat.reduceEqDiff, List.length_nil, List.length_cons, Nat.reduceAdd, Nat.reduceLT, List.set_cons_zero, List.set_cons_succ, ↓us_iturnOf, r_iturnOf, h2.facts, fMg]
  refine m_call (icourseOf_ok hd (by omega) (by omega) _) ?_
  rintro _ w3 hx3 rfl
  have hx3 := ud hx3
  have h3 := h2.ext hx3
  simp only [↓vsd, vsn, gW, qd, qv, ev, pick, argE, List.map_cons, List.map_nil, Option.map_some, Option.map_none, zipE, List.cons_append, List.nil_append, ne_eq, eq_self, forall_const, implies_true, if_true, if_false, reduceIte, List.cons.injEq, reduceCtorEq, Nat.reduceEqDiff, List.length_nil, List.length_cons, Nat.reduceAdd, Nat.reduceLT, List.set_cons_zero, List.set_cons_succ, ↓us_iturnOf, r_iturnOf, h3.facts, fMg]
  refine m_call (irounds_ok st (by omega) _) ?_
  rintro _ w4 hx4 rfl
  simp only [↓vsd, vsn, gW, qd, qv, ev, pick, argE, List.map_cons, List.map_nil, Option.map_some, Option.map_none, zipE, List.cons_append, List.nil_append, ne_eq, eq_self, forall_const, implies_true, if_true, if_false, reduceIte, List.cons.injEq, reduceCtorEq, Nat.reduceEqDiff, List.length_nil, List.length_cons, Nat.reduceAdd, Nat.reduceLT, List.set_cons_zero, List.set_cons_succ, ↓us_iturnOf, r_iturnOf]
  refine m_call (icourseOf_ok (roundsL st) (by rw [roundsL_len]; omega) (by rw [roundsL_len]; omega) _) ?_
  rintro _ w5 hx5 rfl
  simp only [↓vsd, vsn, gW, qd, qv, ev, pick, argE, List.map_cons, List.map_nil, Option.map_some, Option.map_none, zipE, List.cons_append, List.nil_append, ne_eq, eq_self, forall_const, implies_true, if_true, if_false, reduceIte, List.cons.injEq, reduceCtorEq, Nat.reduceEqDiff, List.length_nil, List.length_cons, Nat.reduceAdd, Nat.reduceLT, List.set_cons_zero, List.set_cons_succ, ↓us_iturnOf, r_iturnOf]
  have hcl : (courseL (roundsL st)).length = st - 1 := by unfold courseL; rw [List.length_map, roundsL_len, cou_len st (by omega)]
  have hx15 : Ext w w5 := hx1.trans (hx2.trans (hx3.trans (hx4.trans hx5)))
  refine m_upto (st - 2) (fun k vs w' => vs = [.int .i64 (k + 1 : Nat)] ∧ turnN st hd = turnGo st hd (st - 2 - k) (k + 1) ∧ Ext w w') ⟨rfl, rfl, hx15⟩ ?_
  rintro k vs w6 hk ⟨rfl, htn, hx⟩
  have hz : 0 < (hd.length : Int) := by omega
  by_cases hlt : k + 1 < st - 1
  · have hltI : ((k + 1 : Nat) : Int) < (st - 1 : Nat) := by omega
    have hltJ : ¬ ((st - 1 : Nat) : Int) ≤ (k + 1 : Nat) := by omega
    obtain ⟨i, hi⟩ : ∃ i, st - 2 - k = i + 1 := ⟨st - 2 - k - 1, by omega⟩
    have htn2 : turnN st hd = if TurnsBy st hd (k + 1) then k + 1 else turnGo st hd i (k + 2) := by rw [htn, hi]; rfl
    have hi2 : st - 2 - (k + 1) = i := by omega
    have hdl : (List.drop (k + 1) (courseL (roundsL st))).length + (List.take (k + 1) (courseL (roundsL st))).length = st - 1 := by
      rw [List.length_drop, List.length_take, hcl]; omega
    by_cases h49 : hd.getD 0 0 = 49
    · have h49I : ((hd.getD 0 0).toNat : Int) = 49 := by rw [h49]; rfl
      simp only [↓vsd, vsn, gW, qd, qv, ev, pick, argE, List.map_cons, List.map_nil, Option.map_some, Option.map_none, zipE, List.cons_append, List.nil_append, ne_eq, eq_self, forall_const, implies_true, if_true, if_false, reduceIte, List.cons.injEq, reduceCtorEq, Nat.reduceEqDiff, List.length_nil, List.length_cons, Nat.reduceAdd, Nat.reduceLT, List.set_cons_zero, List.set_cons_succ, ↓us_iturnOf, r_iturnOf, hcl, hltI, hltJ, h49I, hz, hdl]
      refine ⟨by omega, by omega, by omega, by omega, fun he => ⟨hx, ?_⟩, fun hne => ⟨inR_i64 (by omega), UpTo.next (by omega) ⟨rfl, ?_, dr hx⟩⟩⟩
      · rw [htn2, if_pos ⟨h49, he⟩]
      · rw [htn2, if_neg (fun e => hne e.2), hi2]
    · have h49I : ¬ ((hd.getD 0 0).toNat : Int) = 49 := fun e => h49 (UInt8.toNat_inj.1 (by simpa using Int.ofNat.inj e))
      have hno : ¬ TurnsBy st hd (k + 1) := fun e => h49 e.1
      simp only [↓vsd, vsn, gW, qd, qv, ev, pick, argE, List.map_cons, List.map_nil, Option.map_some, Option.map_none, zipE, List.cons_append, List.nil_append, ne_eq, eq_self, forall_const, implies_true, if_true, if_false, reduceIte, List.cons.injEq, reduceCtorEq, Nat.reduceEqDiff, List.length_nil, List.length_cons, Nat.reduceAdd, Nat.reduceLT, List.set_cons_zero, List.set_cons_succ, ↓us_iturnOf, r_iturnOf, hcl, hltI, hltJ, h49I, hz]
      exact ⟨by omega, inR_i64 (by omega), UpTo.next (by omega) ⟨rfl, by rw [htn2, if_neg hno, hi2], dr hx⟩⟩
  · have hltI : ¬ ((k + 1 : Nat) : Int) < (st - 1 : Nat) := by omega
    simp only [↓vsd, vsn, gW, qd, qv, ev, pick, argE, List.map_cons, List.map_nil, Option.map_some, Option.map_none, zipE, List.cons_append, List.nil_append, ne_eq, eq_self, forall_const, implies_true, if_true, if_false, reduceIte, List.cons.injEq, reduceCtorEq, Nat.reduceEqDiff, List.length_nil, List.length_cons, Nat.reduceAdd, Nat.reduceLT, List.set_cons_zero, List.set_cons_succ, ↓us_iturnOf, r_iturnOf, hcl, hltI]
    obtain rfl : k = st - 2 := by omega
    exact ⟨hx, by rw [htn, Nat.sub_self]; rfl⟩
theorem sl15Turn_ok (nm : List UInt8) (st : Nat) (v : Value) (cs : List (List UInt8)) (hm : IsLarge nm st cs) (w : World) (h : Sq fS 1 w v cs) : Fn 254 [mV nm st v] w (fun r _ => r = .int .i64 (turnN st (underL (roundsL st) cs) : Nat)) := by
  (refine callsV_of mix Try.func254 c_sl15Turn ?_; simp only [↓vsd, vsn, gW, qd, qv, ev, pick, argE, List.map_cons, List.map_nil, Option.map_some, Option.map_none, zipE, List.cons_append, List.nil_append, ne_eq, eq_self, forall_const, implies_true, if_true, if_false, reduceIte, List.cons.injEq, reduceCtorEq, Nat.reduceEqDiff, List.length_nil, List.length_cons, Nat.reduceAdd, Nat.reduceLT, List.set_cons_zero, List.set_cons_succ, ↓us_sl15Turn, r_sl15Turn])
  refine m_al ?_
  rintro b w1 hb hblk hx1 hs1
  have h1 : Blk w1 b (fM nm st v) 58 := hblk
  have hq1 := h.ext hx1
  simp only [↓vsd, vsn, gW, qd, qv, ev, pick, argE, List.map_cons, List.map_nil, Option.map_some, Option.map_none, zipE, List.cons_append, List.nil_append, ne_eq, eq_self, forall_const, implies_true, if_true, if_false, reduceIte, List.cons.injEq, reduceCtorEq, Nat.reduceEqDiff, List.length_nil, List.length_cons, Nat.reduceAdd, Nat.reduceLT, List.set_cons_zero, List.set_cons_succ, ↓us_sl15Turn, r_sl15Turn, h1.facts, fMg]
  have hst := hm.1.2.1
  have h4 := hm.2
  refine m_call (sl4Head_ok nm st v cs hm.1 _ hq1) ?_
  rintro _ w2 hx2 rfl
  have h2 := h1.ext hx2
  rw [Int.toNat_natCast]
  have hlen : (underL (roundsL st) cs).length = st := by rw [underL_len, roundsL_len]
  generalize underL (roundsL st) cs = hd at *
  simp only [↓vsd, vsn, gW, qd, qv, ev, pick, argE, List.map_cons, List.map_nil, Option.map_some, Option.map_none, zipE, List.cons_append, List.nil_append, ne_eq, eq_self, forall_const, implies_true, if_true, if_false, reduceIte, List.cons.injEq, reduceCtorEq, Nat.reduceEqDiff, List.length_nil, List.length_cons, Nat.reduceAdd, Nat.reduceLT, List.set_cons_zero, List.set_cons_succ, ↓us_sl15Turn, r_sl15Turn, h2.facts, fMg]
  refine m_call (sl1Rounds_ok st (by omega) _) ?_
  rintro _ w4 hx4 rfl
  simp only [↓vsd, vsn, gW, qd, qv, ev, pick, argE, List.map_cons, List.map_nil, Option.map_some, Option.map_none, zipE, List.cons_append, List.nil_append, ne_eq, eq_self, forall_const, implies_true, if_true, if_false, reduceIte, List.cons.injEq, reduceCtorEq, Nat.reduceEqDiff, List.length_nil, List.length_cons, Nat.reduceAdd, Nat.reduceLT, List.set_cons_zero, List.set_cons_succ, ↓us_sl15Turn, r_sl15Turn]
  refine m_call (sl15Course_ok (roundsL st) (by rw [roundsL_len]; omega) (by rw [roundsL_len]; omega) _) ?_
  rintro _ w5 hx5 rfl
  simp only [↓vsd, vsn, gW, qd, qv, ev, pick, argE, List.map_cons, List.map_nil, Option.map_some, Option.map_none, zipE, List.cons_append, List.nil_append, ne_eq, eq_self, forall_const, implies_true, if_true, if_false, reduceIte, List.cons.injEq, reduceCtorEq, Nat.reduceEqDiff, List.length_nil, List.length_cons, Nat.reduceAdd, Nat.reduceLT, List.set_cons_zero, List.set_cons_succ, ↓us_sl15Turn, r_sl15Turn]
  have hcl : (courseL (roundsL st)).length = st - 1 := by unfold courseL; rw [List.length_map, roundsL_len, cou_len st (by omega)]
  have hx15 : Ext w w5 := hx1.trans (hx2.trans (hx4.trans hx5))
  refine m_upto (st - 2) (fun k vs w' => vs = [.int .i64 (k + 1 : Nat)] ∧ turnN st hd = turnGo st hd (st - 2 - k) (k + 1) ∧ Ext w w') ⟨rfl, rfl, hx15⟩ ?_
  rintro k vs w6 hk ⟨rfl, htn, hx⟩
  have hz : 0 < (hd.length : Int) := by omega
  by_cases hlt : k + 1 < st - 1
  · have hltI : ((k + 1 : Nat) : Int) < (st - 1 : Nat) := by omega
    have hltJ : ¬ ((st - 1 : Nat) : Int) ≤ (k + 1 : Nat) := by omega
    obtain ⟨i, hi⟩ : ∃ i, st - 2 - k = i + 1 := ⟨st - 2 - k - 1, by omega⟩
    have htn2 : turnN st hd = if TurnsBy st hd (k + 1) then k + 1 else turnGo st hd i (k + 2) := by rw [htn, hi]; rfl
    have hi2 : st - 2 - (k + 1) = i := by omega
    have hdl : (List.drop (k + 1) (courseL (roundsL st))).length + (List.take (k + 1) (courseL (roundsL st))).length = st - 1 := by
      rw [List.length_drop, List.length_take, hcl]; omega
    by_cases h49 : hd.getD 0 0 = 49
    · have h49I : ((hd.getD 0 0).toNat : Int) = 49 := by rw [h49]; rfl
      simp only [↓vsd, vsn, gW, qd, qv, ev, pick, argE, List.map_cons, List.map_nil, Option.map_some, Option.map_none, zipE, List.cons_append, List.nil_append, ne_eq, eq_self, forall_const, implies_true, if_true, if_false, reduceIte, List.cons.injEq, reduceCtorEq, Nat.reduceEqDiff, List.length_nil, List.length_cons, Nat.reduceAdd, Nat.reduceLT, List.set_cons_zero, List.set_cons_succ, ↓us_sl15Turn, r_sl15Turn, hcl, hltI, hltJ, h49I, hz, hdl]
      refine ⟨by omega, by omega, by omega, by omega, m_call (sl15Course_ok hd (by omega) (by omega) _) ?_⟩
      rintro _ w7 hx7 rfl
      have hx67 := hx.trans (ud hx7)
      simp only [↓vsd, vsn, gW, qd, qv, ev, pick, argE, List.map_cons, List.map_nil, Option.map_some, Option.map_none, zipE, List.cons_append, List.nil_append, ne_eq, eq_self, forall_const, implies_true, if_true, if_false, reduceIte, List.cons.injEq, reduceCtorEq, Nat.reduceEqDiff, List.length_nil, List.length_cons, Nat.reduceAdd, Nat.reduceLT, List.set_cons_zero, List.set_cons_succ, ↓us_sl15Turn, r_sl15Turn]
      refine ⟨fun he => ⟨hx67, ?_⟩, fun hne => ⟨inR_i64 (by omega), UpTo.next (by omega) ⟨rfl, ?_, hx67⟩⟩⟩
      · rw [htn2, if_pos ⟨h49, he⟩]
      · rw [htn2, if_neg (fun e => hne e.2), hi2]
    · have h49I : ¬ ((hd.getD 0 0).toNat : Int) = 49 := fun e => h49 (UInt8.toNat_inj.1 (by simpa using Int.ofNat.inj e))
      have hno : ¬ TurnsBy st hd (k + 1) := fun e => h49 e.1
      have hpk : ∀ b, pickV (.bool false) b (.bool false) = .bool false := fun _ => rfl
      simp only [↓vsd, vsn, gW, qd, qv, ev, pick, argE, List.map_cons, List.map_nil, Option.map_some, Option.map_none, zipE, List.cons_append, List.nil_append, ne_eq, eq_self, forall_const, implies_true, if_true, if_false, reduceIte, List.cons.injEq, reduceCtorEq, Nat.reduceEqDiff, List.length_nil, List.length_cons, Nat.reduceAdd, Nat.reduceLT, List.set_cons_zero, List.set_cons_succ, ↓us_sl15Turn, r_sl15Turn, hcl, hltI, hltJ, h49I, hz, hpk]
      exact ⟨by omega, inR_i64 (by omega), UpTo.next (by omega) ⟨rfl, by rw [htn2, if_neg hno, hi2], dr hx⟩⟩
  · have hltI : ¬ ((k + 1 : Nat) : Int) < (st - 1 : Nat) := by omega
    simp only [↓vsd, vsn, gW, qd, qv, ev, pick, argE, List.map_cons, List.map_nil, Option.map_some, Option.map_none, zipE, List.cons_append, List.nil_append, ne_eq, eq_self, forall_const, implies_true, if_true, if_false, reduceIte, List.cons.injEq, reduceCtorEq, Nat.reduceEqDiff, List.length_nil, List.length_cons, Nat.reduceAdd, Nat.reduceLT, List.set_cons_zero, List.set_cons_succ, ↓us_sl15Turn, r_sl15Turn, hcl, hltI]
    obtain rfl : k = st - 2 := by omega
    exact ⟨hx, by rw [htn, Nat.sub_self]; rfl⟩
/-- Is a method regular, and is the question one? -/
def regV (nm : List UInt8) (st : Int) (cs : List (List UInt8)) : Value := if IsLarge nm st cs then .tuple ⟨[.bool (decide (0 < turnN st.toNat (underL (roundsL st.toNat) cs))), .bool true]⟩ else .tuple ⟨[.bool false, .bool false]⟩
def turnV (nm : List UInt8) (st : Int) (cs : List (List UInt8)) : Value := if IsLarge nm st cs ∧ turnN st.toNat (underL (roundsL st.toNat) cs) ≠ 0 then .tuple ⟨[.int .i64 (turnN st.toNat (underL (roundsL st.toNat) cs) : Nat), .bool true]⟩ else .tuple ⟨[.int .i64 0, .bool false]⟩
theorem iIsRegular_ok (nm : List UInt8) (st : Int) (v : Value) (cs : List (List UInt8)) (hnm : nm.length ≤ 1048576) (hs : ∀ c ∈ cs, c.length ≤ 1048576) (hl : cs.length ≤ 1000000000) (w : World) (h : Sq fS 1 w v cs) : Fn 120 [mV nm st v] w (fun r _ => r = regV nm st cs) := by
  (refine callsV_of mix Try.func120 c_iIsRegular ?_; simp only [↓vsd, vsn, gW, qd, qv, ev, pick, argE, List.map_cons, List.map_nil, Option.map_some, Option.map_none, zipE, List.cons_append, List.nil_append, ne_eq, eq_self, forall_const, implies_true, if_true, if_false, reduceIte, List.cons.injEq, reduceCtorEq, Nat.reduceEqDiff, List.length_nil, List.length_cons, Nat.reduceAdd, Nat.reduceLT, List.set_cons_zero, List.set_cons_succ, ↓us_iIsRegular, r_iIsRegular])
  refine m_al ?_
  rintro b w1 hb hblk hx1 hs1
  have h1 : Blk w1 b (fM nm st v) 58 := hblk
  have hq1 := h.ext hx1
  simp only [↓vsd, vsn, gW, qd, qv, ev, pick, argE, List.map_cons, List.map_nil, Option.map_some, Option.map_none, zipE, List.cons_append, List.nil_append, ne_eq, eq_self, forall_const, implies_true, if_true, if_false, reduceIte, List.cons.injEq, reduceCtorEq, Nat.reduceEqDiff, List.length_nil, List.length_cons, Nat.reduceAdd, Nat.reduceLT, List.set_cons_zero, List.set_cons_succ, ↓us_iIsRegular, r_iIsRegular, h1.facts, fMg]
  refine m_call (iisLarge_ok nm st v cs hnm hs hl _ hq1) ?_
  rintro _ w2 hx2 rfl
  have h2 := h1.ext hx2
  have hq2 := hq1.ext hx2
  simp only [↓vsd, vsn, gW, qd, qv, ev, pick, argE, List.map_cons, List.map_nil, Option.map_some, Option.map_none, zipE, List.cons_append, List.nil_append, ne_eq, eq_self, forall_const, implies_true, if_true, if_false, reduceIte, List.cons.injEq, reduceCtorEq, Nat.reduceEqDiff, List.length_nil, List.length_cons, Nat.reduceAdd, Nat.reduceLT, List.set_cons_zero, List.set_cons_succ, ↓us_iIsRegular, r_iIsRegular, h2.facts, fMg]
  refine ⟨fun hno => ⟨hx1.trans hx2, by rw [regV, if_neg hno]⟩, fun hL => ?_⟩
  obtain ⟨n, rfl⟩ : ∃ k : Nat, st = k := ⟨st.toNat, by have := hL.2; omega⟩
  refine m_call (iturnOf_ok nm n v cs hL _ hq2) ?_
  rintro _ w3 hx3 rfl
  simp only [↓vsd, vsn, gW, qd, qv, ev, pick, argE, List.map_cons, List.map_nil, Option.map_some, Option.map_none, zipE, List.cons_append, List.nil_append, ne_eq, eq_self, forall_const, implies_true, if_true, if_false, reduceIte, List.cons.injEq, reduceCtorEq, Nat.reduceEqDiff, List.length_nil, List.length_cons, Nat.reduceAdd, Nat.reduceLT, List.set_cons_zero, List.set_cons_succ, ↓us_iIsRegular, r_iIsRegular]
  refine ⟨(hx1.trans hx2).trans hx3, ?_⟩
  rw [regV, if_pos hL, Int.toNat_natCast]
  simp only [Int.natCast_pos]
theorem sIsRegular_ok (nm : List UInt8) (st : Int) (v : Value) (cs : List (List UInt8)) (hnm : nm.length ≤ 1048576) (hs : ∀ c ∈ cs, c.length ≤ 1048576) (hl : cs.length ≤ 1000000000) (w : World) (h : Sq fS 1 w v cs) : Fn 121 [mV nm st v] w (fun r _ => r = regV nm st cs) := by
  (refine callsV_of mix Try.func121 c_sIsRegular ?_; simp only [↓vsd, vsn, gW, qd, qv, ev, pick, argE, List.map_cons, List.map_nil, Option.map_some, Option.map_none, zipE, List.cons_append, List.nil_append, ne_eq, eq_self, forall_const, implies_true, if_true, if_false, reduceIte, List.cons.injEq, reduceCtorEq, Nat.reduceEqDiff, List.length_nil, List.length_cons, Nat.reduceAdd, Nat.reduceLT, List.set_cons_zero, List.set_cons_succ, ↓us_sIsRegular, r_sIsRegular])
  refine m_al ?_
  rintro b w1 hb hblk hx1 hs1
  have h1 : Blk w1 b (fM nm st v) 58 := hblk
  have hq1 := h.ext hx1
  simp only [↓vsd, vsn, gW, qd, qv, ev, pick, argE, List.map_cons, List.map_nil, Option.map_some, Option.map_none, zipE, List.cons_append, List.nil_append, ne_eq, eq_self, forall_const, implies_true, if_true, if_false, reduceIte, List.cons.injEq, reduceCtorEq, Nat.reduceEqDiff, List.length_nil, List.length_cons, Nat.reduceAdd, Nat.reduceLT, List.set_cons_zero, List.set_cons_succ, ↓us_sIsRegular, r_sIsRegular, h1.facts, fMg]
  refine m_call (sl15Good_ok nm st v cs hnm hs hl _ hq1) ?_
  rintro _ w2 hx2 rfl
  have h2 := h1.ext hx2
  have hq2 := hq1.ext hx2
  simp only [↓vsd, vsn, gW, qd, qv, ev, pick, argE, List.map_cons, List.map_nil, Option.map_some, Option.map_none, zipE, List.cons_append, List.nil_append, ne_eq, eq_self, forall_const, implies_true, if_true, if_false, reduceIte, List.cons.injEq, reduceCtorEq, Nat.reduceEqDiff, List.length_nil, List.length_cons, Nat.reduceAdd, Nat.reduceLT, List.set_cons_zero, List.set_cons_succ, ↓us_sIsRegular, r_sIsRegular, h2.facts, fMg]
  refine ⟨fun hno => ⟨hx1.trans hx2, by rw [regV, if_neg hno]⟩, fun hL => ?_⟩
  obtain ⟨n, rfl⟩ : ∃ k : Nat, st = k := ⟨st.toNat, by have := hL.2; omega⟩
  refine m_call (sl15Turn_ok nm n v cs hL _ hq2) ?_
  rintro _ w3 hx3 rfl
  simp only [↓vsd, vsn, gW, qd, qv, ev, pick, argE, List.map_cons, List.map_nil, Option.map_some, Option.map_none, zipE, List.cons_append, List.nil_append, ne_eq, eq_self, forall_const, implies_true, if_true, if_false, reduceIte, List.cons.injEq, reduceCtorEq, Nat.reduceEqDiff, List.length_nil, List.length_cons, Nat.reduceAdd, Nat.reduceLT, List.set_cons_zero, List.set_cons_succ, ↓us_sIsRegular, r_sIsRegular]
  refine ⟨(hx1.trans hx2).trans hx3, ?_⟩
  rw [regV, if_pos hL, Int.toNat_natCast]
  simp only [Int.natCast_pos]
theorem iTurnOf_ok (nm : List UInt8) (st : Int) (v : Value) (cs : List (List UInt8)) (hnm : nm.length ≤ 1048576) (hs : ∀ c ∈ cs, c.length ≤ 1048576) (hl : cs.length ≤ 1000000000) (w : World) (h : Sq fS 1 w v cs) : Fn 118 [mV nm st v] w (fun r _ => r = turnV nm st cs) := by
  (refine callsV_of mix Try.func118 c_iTurnOf ?_; simp only [↓vsd, vsn, gW, qd, qv, ev, pick, argE, List.map_cons, List.map_nil, Option.map_some, Option.map_none, zipE, List.cons_append, List.nil_append, ne_eq, eq_self, forall_const, implies_true, if_true, if_false, reduceIte, List.cons.injEq, reduceCtorEq, Nat.reduceEqDiff, List.length_nil, List.length_cons, Nat.reduceAdd, Nat.reduceLT, List.set_cons_zero, List.set_cons_succ, ↓us_iTurnOf, r_iTurnOf])
  refine m_al ?_
  rintro b w1 hb hblk hx1 hs1
  have h1 : Blk w1 b (fM nm st v) 58 := hblk
  have hq1 := h.ext hx1
  simp only [↓vsd, vsn, gW, qd, qv, ev, pick, argE, List.map_cons, List.map_nil, Option.map_some, Option.map_none, zipE, List.cons_append, List.nil_append, ne_eq, eq_self, forall_const, implies_true, if_true, if_false, reduceIte, List.cons.injEq, reduceCtorEq, Nat.reduceEqDiff, List.length_nil, List.length_cons, Nat.reduceAdd, Nat.reduceLT, List.set_cons_zero, List.set_cons_succ, ↓us_iTurnOf, r_iTurnOf, h1.facts, fMg]
  refine m_call (iisLarge_ok nm st v cs hnm hs hl _ hq1) ?_
  rintro _ w2 hx2 rfl
  have h2 := h1.ext hx2
  have hq2 := hq1.ext hx2
  by_cases hL : IsLarge nm st cs
  · obtain ⟨n, rfl⟩ : ∃ k : Nat, st = k := ⟨st.toNat, by have := hL.2; omega⟩
    simp only [↓vsd, vsn, gW, qd, qv, ev, pick, argE, List.map_cons, List.map_nil, Option.map_some, Option.map_none, zipE, List.cons_append, List.nil_append, ne_eq, eq_self, forall_const, implies_true, if_true, if_false, reduceIte, List.cons.injEq, reduceCtorEq, Nat.reduceEqDiff, List.length_nil, List.length_cons, Nat.reduceAdd, Nat.reduceLT, List.set_cons_zero, List.set_cons_succ, ↓us_iTurnOf, r_iTurnOf, h2.facts, fMg, hL]
    refine m_call (iturnOf_ok nm n v cs hL _ hq2) ?_
    rintro _ w3 hx3 rfl
    have h3 := h2.ext hx3
    have hx13 := (hx1.trans hx2).trans hx3
    simp only [↓vsd, vsn, gW, qd, qv, ev, pick, argE, List.map_cons, List.map_nil, Option.map_some, Option.map_none, zipE, List.cons_append, List.nil_append, ne_eq, eq_self, forall_const, implies_true, if_true, if_false, reduceIte, List.cons.injEq, reduceCtorEq, Nat.reduceEqDiff, List.length_nil, List.length_cons, Nat.reduceAdd, Nat.reduceLT, List.set_cons_zero, List.set_cons_succ, ↓us_iTurnOf, r_iTurnOf, h3.facts, fMg]
    refine ⟨fun h0 => ⟨hx13, ?_⟩, fun h0 => ?_⟩
    · rw [turnV, if_neg (fun e => e.2 (by rw [Int.toNat_natCast]; omega))]
    · refine m_call (iturnOf_ok nm n v cs hL _ (hq2.ext hx3)) ?_
      rintro _ w4 hx4 rfl
      simp only [↓vsd, vsn, gW, qd, qv, ev, pick, argE, List.map_cons, List.map_nil, Option.map_some, Option.map_none, zipE, List.cons_append, List.nil_append, ne_eq, eq_self, forall_const, implies_true, if_true, if_false, reduceIte, List.cons.injEq, reduceCtorEq, Nat.reduceEqDiff, List.length_nil, List.length_cons, Nat.reduceAdd, Nat.reduceLT, List.set_cons_zero, List.set_cons_succ, ↓us_iTurnOf, r_iTurnOf]
      exact ⟨hx13.trans hx4, by rw [turnV, if_pos ⟨hL, by rw [Int.toNat_natCast]; omega⟩, Int.toNat_natCast]⟩
  · have hpk : ∀ b, pickV (.bool true) (.bool true) b = .bool true := fun _ => rfl
    simp only [↓vsd, vsn, gW, qd, qv, ev, pick, argE, List.map_cons, List.map_nil, Option.map_some, Option.map_none, zipE, List.cons_append, List.nil_append, ne_eq, eq_self, forall_const, implies_true, if_true, if_false, reduceIte, List.cons.injEq, reduceCtorEq, Nat.reduceEqDiff, List.length_nil, List.length_cons, Nat.reduceAdd, Nat.reduceLT, List.set_cons_zero, List.set_cons_succ, ↓us_iTurnOf, r_iTurnOf, h2.facts, fMg, hL, hpk]
    exact ⟨hx1.trans hx2, by rw [turnV, if_neg (fun e => hL e.1)]⟩
theorem sTurnOf_ok (nm : List UInt8) (st : Int) (v : Value) (cs : List (List UInt8)) (hnm : nm.length ≤ 1048576) (hs : ∀ c ∈ cs, c.length ≤ 1048576) (hl : cs.length ≤ 1000000000) (w : World) (h : Sq fS 1 w v cs) : Fn 119 [mV nm st v] w (fun r _ => r = turnV nm st cs) := by
  (refine callsV_of mix Try.func119 c_sTurnOf ?_; simp only [↓vsd, vsn, gW, qd, qv, ev, pick, argE, List.map_cons, List.map_nil, Option.map_some, Option.map_none, zipE, List.cons_append, List.nil_append, ne_eq, eq_self, forall_const, implies_true, if_true, if_false, reduceIte, List.cons.injEq, reduceCtorEq, Nat.reduceEqDiff, List.length_nil, List.length_cons, Nat.reduceAdd, Nat.reduceLT, List.set_cons_zero, List.set_cons_succ, ↓us_sTurnOf, r_sTurnOf])
  refine m_al ?_
  rintro b w1 hb hblk hx1 hs1
  have h1 : Blk w1 b (fM nm st v) 58 := hblk
  have hq1 := h.ext hx1
  simp only [↓vsd, vsn, gW, qd, qv, ev, pick, argE, List.map_cons, List.map_nil, Option.map_some, Option.map_none, zipE, List.cons_append, List.nil_append, ne_eq, eq_self, forall_const, implies_true, if_true, if_false, reduceIte, List.cons.injEq, reduceCtorEq, Nat.reduceEqDiff, List.length_nil, List.length_cons, Nat.reduceAdd, Nat.reduceLT, List.set_cons_zero, List.set_cons_succ, ↓us_sTurnOf, r_sTurnOf, h1.facts, fMg]
  refine m_call (sl15Good_ok nm st v cs hnm hs hl _ hq1) ?_
  rintro _ w2 hx2 rfl
  have h2 := h1.ext hx2
  have hq2 := hq1.ext hx2
  by_cases hL : IsLarge nm st cs
  · obtain ⟨n, rfl⟩ : ∃ k : Nat, st = k := ⟨st.toNat, by have := hL.2; omega⟩
    simp only [↓vsd, vsn, gW, qd, qv, ev, pick, argE, List.map_cons, List.map_nil, Option.map_some, Option.map_none, zipE, List.cons_append, List.nil_append, ne_eq, eq_self, forall_const, implies_true, if_true, if_false, reduceIte, List.cons.injEq, reduceCtorEq, Nat.reduceEqDiff, List.length_nil, List.length_cons, Nat.reduceAdd, Nat.reduceLT, List.set_cons_zero, List.set_cons_succ, ↓us_sTurnOf, r_sTurnOf, h2.facts, fMg, hL]
    refine m_call (sl15Turn_ok nm n v cs hL _ hq2) ?_
    rintro _ w3 hx3 rfl
    have h3 := h2.ext hx3
    have hx13 := (hx1.trans hx2).trans hx3
    simp only [↓vsd, vsn, gW, qd, qv, ev, pick, argE, List.map_cons, List.map_nil, Option.map_some, Option.map_none, zipE, List.cons_append, List.nil_append, ne_eq, eq_self, forall_const, implies_true, if_true, if_false, reduceIte, List.cons.injEq, reduceCtorEq, Nat.reduceEqDiff, List.length_nil, List.length_cons, Nat.reduceAdd, Nat.reduceLT, List.set_cons_zero, List.set_cons_succ, ↓us_sTurnOf, r_sTurnOf, h3.facts, fMg]
    refine ⟨fun h0 => ⟨hx13, ?_⟩, fun h0 => ?_⟩
    · rw [turnV, if_neg (fun e => e.2 (by rw [Int.toNat_natCast]; omega))]
    · refine m_call (sl15Turn_ok nm n v cs hL _ (hq2.ext hx3)) ?_
      rintro _ w4 hx4 rfl
      simp only [↓vsd, vsn, gW, qd, qv, ev, pick, argE, List.map_cons, List.map_nil, Option.map_some, Option.map_none, zipE, List.cons_append, List.nil_append, ne_eq, eq_self, forall_const, implies_true, if_true, if_false, reduceIte, List.cons.injEq, reduceCtorEq, Nat.reduceEqDiff, List.length_nil, List.length_cons, Nat.reduceAdd, Nat.reduceLT, List.set_cons_zero, List.set_cons_succ, ↓us_sTurnOf, r_sTurnOf]
      exact ⟨hx13.trans hx4, by rw [turnV, if_pos ⟨hL, by rw [Int.toNat_natCast]; omega⟩, Int.toNat_natCast]⟩
  · have hpk : ∀ b, pickV (.bool true) (.bool true) b = .bool true := fun _ => rfl
    simp only [↓vsd, vsn, gW, qd, qv, ev, pick, argE, List.map_cons, List.map_nil, Option.map_some, Option.map_none, zipE, List.cons_append, List.nil_append, ne_eq, eq_self, forall_const, implies_true, if_true, if_false, reduceIte, List.cons.injEq, reduceCtorEq, Nat.reduceEqDiff, List.length_nil, List.length_cons, Nat.reduceAdd, Nat.reduceLT, List.set_cons_zero, List.set_cons_succ, ↓us_sTurnOf, r_sTurnOf, h2.facts, fMg, hL, hpk]
    exact ⟨hx1.trans hx2, by rw [turnV, if_neg (fun e => hL e.1)]⟩
end Go.Proofs.Ytjcnmobdlkmaeaa
