/-
  Coursing orders of a touch, of both sides.
  Conditions: none.
-/
import Derived.Test.YtjcnmobdlkmaeaaA18
set_option linter.unusedSimpArgs false
set_option linter.unusedVariables false
set_option linter.defProp false
namespace Go.Proofs.Ytjcnmobdlkmaeaa
open Go Go.RowKit
def t_iareCalls_1 : X := (.cond (.t 15) (.seq (.reg [2] (.c (.q 2 [] (.mv (.c (.bool false)))) .nil)) .ret) .skip)
theorem u_iareCalls_1 (P : Program) (k : KT) (e : Env) (w : World) : vcK P t_iareCalls_1 k e w = vcK P (.cond (.t 15) (.seq (.reg [2] (.c (.q 2 [] (.mv (.c (.bool false)))) .nil)) .ret) .skip) k e w := rfl
def t_iareCalls_2 : X := (.seq (.reg [0, 5, 6, 15] (.c (.q 9 [] (.mv (.t 0))) (.c (.q 10 [] (.mv (.t 3))) (.c (.q 11 [] (.mv (.t 3))) (.c (.q 12 [] (.bin .add (.t 11) (.c (.int .i64 1)))) (.c (.q 13 [] (.sub (.t 9) (some (.t 10)) (some (.t 12)))) (.c (.e (some 14) [] (.call false 294 [(.t 13)])) (.c (.q 15 [] (.not (.t 14))) .nil)))))))) t_iareCalls_1)
theorem u_iareCalls_2 (P : Program) (k : KT) (e : Env) (w : World) : vcK P t_iareCalls_2 k e w = vcK P (.seq (.reg [0, 5, 6, 15] (.c (.q 9 [] (.mv (.t 0))) (.c (.q 10 [] (.mv (.t 3))) (.c (.q 11 [] (.mv (.t 3))) (.c (.q 12 [] (.bin .add (.t 11) (.c (.int .i64 1)))) (.c (.q 13 [] (.sub (.t 9) (some (.t 10)) (some (.t 12)))) (.c (.e (some 14) [] (.call false 294 [(.t 13)])) (.c (.q 15 [] (.not (.t 14))) .nil)))))))) t_iareCalls_1) k e w := rfl
def t_iareCalls_3 : X := (.reg [0, 5, 6] (.c (.q 16 [] (.bin .add (.t 6) (.c (.int .i64 1)))) (.c (.q 6 [] (.mv (.t 16))) .nil)))
theorem u_iareCalls_3 (P : Program) (k : KT) (e : Env) (w : World) : vcK P t_iareCalls_3 k e w = vcK P (.reg [0, 5, 6] (.c (.q 16 [] (.bin .add (.t 6) (.c (.int .i64 1)))) (.c (.q 6 [] (.mv (.t 16))) .nil))) k e w := rfl
def t_iareCalls_4 : X := (.seq (.blk 1 (.seq (.reg [0, 3, 5, 6] (.c (.q 8 [] (.mv (.t 6))) (.c (.q 3 [] (.mv (.t 8))) .nil))) t_iareCalls_2)) t_iareCalls_3)
theorem u_iareCalls_4 (P : Program) (k : KT) (e : Env) (w : World) : vcK P t_iareCalls_4 k e w = vcK P (.seq (.blk 1 (.seq (.reg [0, 3, 5, 6] (.c (.q 8 [] (.mv (.t 6))) (.c (.q 3 [] (.mv (.t 8))) .nil))) t_iareCalls_2)) t_iareCalls_3) k e w := rfl
def t_iareCalls_5 : X := (.seq (.cond (.t 7) .skip (.exit 0)) t_iareCalls_4)
theorem u_iareCalls_5 (P : Program) (k : KT) (e : Env) (w : World) : vcK P t_iareCalls_5 k e w = vcK P (.seq (.cond (.t 7) .skip (.exit 0)) t_iareCalls_4) k e w := rfl
def t_iareCalls_6 : X := (.seq (.reg [0, 5, 6, 7] (.c (.q 7 [] (.bin .lss (.t 6) (.t 5))) .nil)) t_iareCalls_5)
theorem u_iareCalls_6 (P : Program) (k : KT) (e : Env) (w : World) : vcK P t_iareCalls_6 k e w = vcK P (.seq (.reg [0, 5, 6, 7] (.c (.q 7 [] (.bin .lss (.t 6) (.t 5))) .nil)) t_iareCalls_5) k e w := rfl
def t_iareCalls_7 : X := (.blk 0 (.loop [6] [0, 5] t_iareCalls_6))
theorem u_iareCalls_7 (P : Program) (k : KT) (e : Env) (w : World) : vcK P t_iareCalls_7 k e w = vcK P (.blk 0 (.loop [6] [0, 5] t_iareCalls_6)) k e w := rfl
def t_iareCalls_8 : X := (.seq (.reg [2] (.c (.q 2 [] (.mv (.c (.bool true)))) .nil)) .ret)
theorem u_iareCalls_8 (P : Program) (k : KT) (e : Env) (w : World) : vcK P t_iareCalls_8 k e w = vcK P (.seq (.reg [2] (.c (.q 2 [] (.mv (.c (.bool true)))) .nil)) .ret) k e w := rfl
def t_iareCalls_9 : X := (.seq (.seq (.reg [0, 5, 6] (.c (.q 4 [] (.mv (.t 0))) (.c (.q 5 [] (.len (.t 4))) (.c (.q 6 [] (.mv (.c (.int .i64 0)))) .nil)))) t_iareCalls_7) t_iareCalls_8)
theorem u_iareCalls_9 (P : Program) (k : KT) (e : Env) (w : World) : vcK P t_iareCalls_9 k e w = vcK P (.seq (.seq (.reg [0, 5, 6] (.c (.q 4 [] (.mv (.t 0))) (.c (.q 5 [] (.len (.t 4))) (.c (.q 6 [] (.mv (.c (.int .i64 0)))) .nil)))) t_iareCalls_7) t_iareCalls_8) k e w := rfl
def x_iareCalls : X := (.seq (.reg [0] (.c (.q 2 [] (.mv (.c (.bool false)))) .nil)) t_iareCalls_9)
theorem u_iareCalls (P : Program) (k : KT) (e : Env) (w : World) : vcK P x_iareCalls k e w = vcK P (.seq (.reg [0] (.c (.q 2 [] (.mv (.c (.bool false)))) .nil)) t_iareCalls_9) k e w := rfl
def r_iareCalls : List XO := [(.mv (.t 2))]
theorem c_iareCalls : convF Try.prog [145, 147, 148, 149, 158, 205, 206, 232, 234, 247, 248, 256, 261, 283, 284, 299, 300, 307] Try.f240 [([0], []), ([0, 5, 6], []), ([6], [0, 5]), ([0, 5, 6, 7], []), ([0, 3, 5, 6], []), ([0, 5, 6, 15], []), ([2], []), ([0, 5, 6], []), ([2], [])] = some (x_iareCalls, r_iareCalls) := by kernel_rfl
def us_iareCalls := And.intro @u_iareCalls (And.intro @u_iareCalls_1 (And.intro @u_iareCalls_2 (And.intro @u_iareCalls_3 (And.intro @u_iareCalls_4 (And.intro @u_iareCalls_5 (And.intro @u_iareCalls_6 (And.intro @u_iareCalls_7 (And.intro @u_iareCalls_8 @u_iareCalls_9))))))))
def t_iGoodTouch_1 : X := (.seq (.reg [2] (.c (.q 3 [] (.mv (.t 0))) (.c (.q 4 [] (.len (.t 3))) (.c (.q 5 [] (.bin .geq (.t 4) (.c (.int .i64 1)))) (.c (.q 6 [] (.mv (.t 5))) (.c (.q 7 [(6, true)] (.mv (.t 0))) (.c (.q 8 [(6, true)] (.len (.t 7))) (.c (.q 9 [(6, true)] (.bin .leq (.t 8) (.c (.int .i64 60)))) (.c (.q 10 [] (.pick (.t 6) (.t 9) (.c (.bool false)))) (.c (.q 11 [] (.mv (.t 10))) (.c (.q 12 [(11, true)] (.mv (.t 0))) (.c (.e (some 13) [(11, true)] (.call false 240 [(.t 12)])) (.c (.q 14 [] (.pick (.t 11) (.t 13) (.c (.bool false)))) (.c (.q 2 [] (.mv (.t 14))) .nil)))))))))))))) .ret)
theorem u_iGoodTouch_1 (P : Program) (k : KT) (e : Env) (w : World) : vcK P t_iGoodTouch_1 k e w = vcK P (.seq (.reg [2] (.c (.q 3 [] (.mv (.t 0))) (.c (.q 4 [] (.len (.t 3))) (.c (.q 5 [] (.bin .geq (.t 4) (.c (.int .i64 1)))) (.c (.q 6 [] (.mv (.t 5))) (.c (.q 7 [(6, true)] (.mv (.t 0))) (.c (.q 8 [(6, true)] (.len (.t 7))) (.c (.q 9 [(6, true)] (.bin .leq (.t 8) (.c (.int .i64 60)))) (.c (.q 10 [] (.pick (.t 6) (.t 9) (.c (.bool false)))) (.c (.q 11 [] (.mv (.t 10))) (.c (.q 12 [(11, true)] (.mv (.t 0))) (.c (.e (some 13) [(11, true)] (.call false 240 [(.t 12)])) (.c (.q 14 [] (.pick (.t 11) (.t 13) (.c (.bool false)))) (.c (.q 2 [] (.mv (.t 14))) .nil)))))))))))))) .ret) k e w := rfl
def x_iGoodTouch : X := (.seq (.reg [0] (.c (.q 2 [] (.mv (.c (.bool false)))) .nil)) t_iGoodTouch_1)
theorem u_iGoodTouch (P : Program) (k : KT) (e : Env) (w : World) : vcK P x_iGoodTouch k e w = vcK P (.seq (.reg [0] (.c (.q 2 [] (.mv (.c (.bool false)))) .nil)) t_iGoodTouch_1) k e w := rfl
def r_iGoodTouch : List XO := [(.mv (.t 2))]
theorem c_iGoodTouch : convF Try.prog [145, 147, 148, 149, 158, 205, 206, 232, 234, 247, 248, 256, 261, 283, 284, 299, 300, 307] Try.f106 [([0], []), ([2], [])] = some (x_iGoodTouch, r_iGoodTouch) := by kernel_rfl
def us_iGoodTouch := And.intro @u_iGoodTouch @u_iGoodTouch_1
def t_igoodFor_1 : X := (.seq (.reg [6] (.c (.q 7 [] (.lda 3 (.t 3))) (.c (.q 8 [] (.lda 2 (.t 4))) (.c (.e (some 9) [] (.call false 274 [(.t 7), (.t 8)])) (.c (.q 10 [] (.mv (.t 9))) (.c (.q 11 [(10, true)] (.mv (.t 2))) (.c (.e (some 12) [(10, true)] (.call false 106 [(.t 11)])) (.c (.q 13 [] (.pick (.t 10) (.t 12) (.c (.bool false)))) (.c (.q 6 [] (.mv (.t 13))) .nil))))))))) .ret)
theorem u_igoodFor_1 (P : Program) (k : KT) (e : Env) (w : World) : vcK P t_igoodFor_1 k e w = vcK P (.seq (.reg [6] (.c (.q 7 [] (.lda 3 (.t 3))) (.c (.q 8 [] (.lda 2 (.t 4))) (.c (.e (some 9) [] (.call false 274 [(.t 7), (.t 8)])) (.c (.q 10 [] (.mv (.t 9))) (.c (.q 11 [(10, true)] (.mv (.t 2))) (.c (.e (some 12) [(10, true)] (.call false 106 [(.t 11)])) (.c (.q 13 [] (.pick (.t 10) (.t 12) (.c (.bool false)))) (.c (.q 6 [] (.mv (.t 13))) .nil))))))))) .ret) k e w := rfl
def x_igoodFor : X := (.seq (.reg [2, 3, 4] (.c (.e (some 3) [] (.box 58 (.t 0))) (.c (.e (some 4) [] (.box 47 (.t 1))) (.c (.q 6 [] (.mv (.c (.bool false)))) .nil)))) t_igoodFor_1)
theorem u_igoodFor (P : Program) (k : KT) (e : Env) (w : World) : vcK P x_igoodFor k e w = vcK P (.seq (.reg [2, 3, 4] (.c (.e (some 3) [] (.box 58 (.t 0))) (.c (.e (some 4) [] (.box 47 (.t 1))) (.c (.q 6 [] (.mv (.c (.bool false)))) .nil)))) t_igoodFor_1) k e w := rfl
def r_igoodFor : List XO := [(.mv (.t 6))]
theorem c_igoodFor : convF Try.prog [145, 147, 148, 149, 158, 205, 206, 232, 234, 247, 248, 256, 261, 283, 284, 299, 300, 307] Try.f184 [([2, 3, 4], []), ([6], [])] = some (x_igoodFor, r_igoodFor) := by kernel_rfl
def us_igoodFor := And.intro @u_igoodFor @u_igoodFor_1
def t_sl9Good_1 : X := (.cond (.t 7) .skip (.exit 0))
theorem u_sl9Good_1 (P : Program) (k : KT) (e : Env) (w : World) : vcK P t_sl9Good_1 k e w = vcK P (.cond (.t 7) .skip (.exit 0)) k e w := rfl
def t_sl9Good_2 : X := (.cond (.t 16) (.seq (.reg [2] (.c (.q 2 [] (.mv (.c (.bool false)))) .nil)) .ret) .skip)
theorem u_sl9Good_2 (P : Program) (k : KT) (e : Env) (w : World) : vcK P t_sl9Good_2 k e w = vcK P (.cond (.t 16) (.seq (.reg [2] (.c (.q 2 [] (.mv (.c (.bool false)))) .nil)) .ret) .skip) k e w := rfl
def t_sl9Good_3 : X := (.reg [0, 3] (.c (.q 8 [] (.mv (.t 3))) (.c (.q 9 [] (.bin .add (.t 8) (.c (.int .i64 1)))) (.c (.q 3 [] (.mv (.t 9))) .nil))))
theorem u_sl9Good_3 (P : Program) (k : KT) (e : Env) (w : World) : vcK P t_sl9Good_3 k e w = vcK P (.reg [0, 3] (.c (.q 8 [] (.mv (.t 3))) (.c (.q 9 [] (.bin .add (.t 8) (.c (.int .i64 1)))) (.c (.q 3 [] (.mv (.t 9))) .nil)))) k e w := rfl
def t_sl9Good_4 : X := (.seq (.blk 1 (.seq (.reg [0, 3, 16] (.c (.q 10 [] (.mv (.t 0))) (.c (.q 11 [] (.mv (.t 3))) (.c (.q 12 [] (.mv (.t 3))) (.c (.q 13 [] (.bin .add (.t 12) (.c (.int .i64 1)))) (.c (.q 14 [] (.sub (.t 10) (some (.t 11)) (some (.t 13)))) (.c (.e (some 15) [] (.call false 295 [(.t 14)])) (.c (.q 16 [] (.not (.t 15))) .nil)))))))) t_sl9Good_2)) t_sl9Good_3)
theorem u_sl9Good_4 (P : Program) (k : KT) (e : Env) (w : World) : vcK P t_sl9Good_4 k e w = vcK P (.seq (.blk 1 (.seq (.reg [0, 3, 16] (.c (.q 10 [] (.mv (.t 0))) (.c (.q 11 [] (.mv (.t 3))) (.c (.q 12 [] (.mv (.t 3))) (.c (.q 13 [] (.bin .add (.t 12) (.c (.int .i64 1)))) (.c (.q 14 [] (.sub (.t 10) (some (.t 11)) (some (.t 13)))) (.c (.e (some 15) [] (.call false 295 [(.t 14)])) (.c (.q 16 [] (.not (.t 15))) .nil)))))))) t_sl9Good_2)) t_sl9Good_3) k e w := rfl
def t_sl9Good_5 : X := (.seq (.seq (.reg [0, 3, 7] (.c (.q 4 [] (.mv (.t 3))) (.c (.q 5 [] (.mv (.t 0))) (.c (.q 6 [] (.len (.t 5))) (.c (.q 7 [] (.bin .lss (.t 4) (.t 6))) .nil))))) t_sl9Good_1) t_sl9Good_4)
theorem u_sl9Good_5 (P : Program) (k : KT) (e : Env) (w : World) : vcK P t_sl9Good_5 k e w = vcK P (.seq (.seq (.reg [0, 3, 7] (.c (.q 4 [] (.mv (.t 3))) (.c (.q 5 [] (.mv (.t 0))) (.c (.q 6 [] (.len (.t 5))) (.c (.q 7 [] (.bin .lss (.t 4) (.t 6))) .nil))))) t_sl9Good_1) t_sl9Good_4) k e w := rfl
def t_sl9Good_6 : X := (.blk 0 (.loop [3] [0] t_sl9Good_5))
theorem u_sl9Good_6 (P : Program) (k : KT) (e : Env) (w : World) : vcK P t_sl9Good_6 k e w = vcK P (.blk 0 (.loop [3] [0] t_sl9Good_5)) k e w := rfl
def t_sl9Good_7 : X := (.seq (.reg [2] (.c (.q 17 [] (.mv (.t 0))) (.c (.q 18 [] (.len (.t 17))) (.c (.e (some 19) [] (.call false 208 [(.t 18), (.c (.int .i64 1)), (.c (.int .i64 60))])) (.c (.q 2 [] (.mv (.t 19))) .nil))))) .ret)
theorem u_sl9Good_7 (P : Program) (k : KT) (e : Env) (w : World) : vcK P t_sl9Good_7 k e w = vcK P (.seq (.reg [2] (.c (.q 17 [] (.mv (.t 0))) (.c (.q 18 [] (.len (.t 17))) (.c (.e (some 19) [] (.call false 208 [(.t 18), (.c (.int .i64 1)), (.c (.int .i64 60))])) (.c (.q 2 [] (.mv (.t 19))) .nil))))) .ret) k e w := rfl
def t_sl9Good_8 : X := (.seq (.seq (.reg [0, 3] (.c (.q 3 [] (.mv (.c (.int .i64 0)))) .nil)) t_sl9Good_6) t_sl9Good_7)
theorem u_sl9Good_8 (P : Program) (k : KT) (e : Env) (w : World) : vcK P t_sl9Good_8 k e w = vcK P (.seq (.seq (.reg [0, 3] (.c (.q 3 [] (.mv (.c (.int .i64 0)))) .nil)) t_sl9Good_6) t_sl9Good_7) k e w := rfl
def x_sl9Good : X := (.seq (.reg [0] (.c (.q 2 [] (.mv (.c (.bool false)))) .nil)) t_sl9Good_8)
theorem u_sl9Good (P : Program) (k : KT) (e : Env) (w : World) : vcK P x_sl9Good k e w = vcK P (.seq (.reg [0] (.c (.q 2 [] (.mv (.c (.bool false)))) .nil)) t_sl9Good_8) k e w := rfl
def r_sl9Good : List XO := [(.mv (.t 2))]
theorem c_sl9Good : convF Try.prog [145, 147, 148, 149, 158, 205, 206, 232, 234, 247, 248, 256, 261, 283, 284, 299, 300, 307] Try.f241 [([0], []), ([0, 3], []), ([3], [0]), ([0, 3, 7], []), ([0, 3, 16], []), ([2], []), ([0, 3], []), ([2], [])] = some (x_sl9Good, r_sl9Good) := by kernel_rfl
def us_sl9Good := And.intro @u_sl9Good (And.intro @u_sl9Good_1 (And.intro @u_sl9Good_2 (And.intro @u_sl9Good_3 (And.intro @u_sl9Good_4 (And.intro @u_sl9Good_5 (And.intro @u_sl9Good_6 (And.intro @u_sl9Good_7 @u_sl9Good_8)))))))
def t_sl9Asked_1 : X := (.seq (.reg [6] (.c (.q 7 [] (.lda 3 (.t 3))) (.c (.q 8 [] (.lda 2 (.t 4))) (.c (.e (some 9) [] (.call false 272 [(.t 7), (.t 8)])) (.c (.q 10 [] (.mv (.t 9))) (.c (.q 11 [(10, true)] (.mv (.t 2))) (.c (.e (some 12) [(10, true)] (.call false 241 [(.t 11)])) (.c (.q 13 [] (.pick (.t 10) (.t 12) (.c (.bool false)))) (.c (.q 6 [] (.mv (.t 13))) .nil))))))))) .ret)
theorem u_sl9Asked_1 (P : Program) (k : KT) (e : Env) (w : World) : vcK P t_sl9Asked_1 k e w = vcK P (.seq (.reg [6] (.c (.q 7 [] (.lda 3 (.t 3))) (.c (.q 8 [] (.lda 2 (.t 4))) (.c (.e (some 9) [] (.call false 272 [(.t 7), (.t 8)])) (.c (.q 10 [] (.mv (.t 9))) (.c (.q 11 [(10, true)] (.mv (.t 2))) (.c (.e (some 12) [(10, true)] (.call false 241 [(.t 11)])) (.c (.q 13 [] (.pick (.t 10) (.t 12) (.c (.bool false)))) (.c (.q 6 [] (.mv (.t 13))) .nil))))))))) .ret) k e w := rfl
def x_sl9Asked : X := (.seq (.reg [2, 3, 4] (.c (.e (some 3) [] (.box 58 (.t 0))) (.c (.e (some 4) [] (.box 47 (.t 1))) (.c (.q 6 [] (.mv (.c (.bool false)))) .nil)))) t_sl9Asked_1)
theorem u_sl9Asked (P : Program) (k : KT) (e : Env) (w : World) : vcK P x_sl9Asked k e w = vcK P (.seq (.reg [2, 3, 4] (.c (.e (some 3) [] (.box 58 (.t 0))) (.c (.e (some 4) [] (.box 47 (.t 1))) (.c (.q 6 [] (.mv (.c (.bool false)))) .nil)))) t_sl9Asked_1) k e w := rfl
def r_sl9Asked : List XO := [(.mv (.t 6))]
theorem c_sl9Asked : convF Try.prog [145, 147, 148, 149, 158, 205, 206, 232, 234, 247, 248, 256, 261, 283, 284, 299, 300, 307] Try.f178 [([2, 3, 4], []), ([6], [])] = some (x_sl9Asked, r_sl9Asked) := by kernel_rfl
def us_sl9Asked := And.intro @u_sl9Asked @u_sl9Asked_1
def t_iConductLine_1 : X := (.cond (.t 25) (.seq (.reg [6, 7] (.c (.q 6 [] (.mv (.c (.slice none 0 0)))) (.c (.q 7 [] (.mv (.c (.bool false)))) .nil))) .ret) .skip)
theorem u_iConductLine_1 (P : Program) (k : KT) (e : Env) (w : World) : vcK P t_iConductLine_1 k e w = vcK P (.cond (.t 25) (.seq (.reg [6, 7] (.c (.q 6 [] (.mv (.c (.slice none 0 0)))) (.c (.q 7 [] (.mv (.c (.bool false)))) .nil))) .ret) .skip) k e w := rfl
def t_iConductLine_2 : X := (.cond (.t 49) (.seq (.reg [6, 7] (.c (.q 6 [] (.mv (.c (.slice none 0 0)))) (.c (.q 7 [] (.mv (.c (.bool false)))) .nil))) .ret) .skip)
theorem u_iConductLine_2 (P : Program) (k : KT) (e : Env) (w : World) : vcK P t_iConductLine_2 k e w = vcK P (.cond (.t 49) (.seq (.reg [6, 7] (.c (.q 6 [] (.mv (.c (.slice none 0 0)))) (.c (.q 7 [] (.mv (.c (.bool false)))) .nil))) .ret) .skip) k e w := rfl
def t_iConductLine_3 : X := (.reg [2, 3, 4, 8, 9, 13, 33, 34, 50, 51, 52] (.c (.q 56 [] (.mv (.t 13))) (.c (.q 57 [] (.mv (.t 8))) (.c (.q 58 [] (.mv (.t 15))) (.c (.q 59 [] (.mv (.t 15))) (.c (.q 60 [] (.bin .add (.t 59) (.c (.int .i64 1)))) (.c (.q 61 [] (.sub (.t 57) (some (.t 58)) (some (.t 60)))) (.c (.q 62 [] (.bin .add (.t 56) (.t 61))) (.c (.q 13 [] (.mv (.t 62))) .nil)))))))))
theorem u_iConductLine_3 (P : Program) (k : KT) (e : Env) (w : World) : vcK P t_iConductLine_3 k e w = vcK P (.reg [2, 3, 4, 8, 9, 13, 33, 34, 50, 51, 52] (.c (.q 56 [] (.mv (.t 13))) (.c (.q 57 [] (.mv (.t 8))) (.c (.q 58 [] (.mv (.t 15))) (.c (.q 59 [] (.mv (.t 15))) (.c (.q 60 [] (.bin .add (.t 59) (.c (.int .i64 1)))) (.c (.q 61 [] (.sub (.t 57) (some (.t 58)) (some (.t 60)))) (.c (.q 62 [] (.bin .add (.t 56) (.t 61))) (.c (.q 13 [] (.mv (.t 62))) .nil))))))))) k e w := rfl
def t_iConductLine_4 : X := (.reg [2, 3, 4, 8, 9, 13, 33, 34, 50, 51, 52] (.c (.q 63 [] (.bin .add (.t 52) (.c (.int .i64 1)))) (.c (.q 52 [] (.mv (.t 63))) .nil)))
theorem u_iConductLine_4 (P : Program) (k : KT) (e : Env) (w : World) : vcK P t_iConductLine_4 k e w = vcK P (.reg [2, 3, 4, 8, 9, 13, 33, 34, 50, 51, 52] (.c (.q 63 [] (.bin .add (.t 52) (.c (.int .i64 1)))) (.c (.q 52 [] (.mv (.t 63))) .nil))) k e w := rfl
def t_iConductLine_5 : X := (.seq (.blk 3 (.seq (.reg [2, 3, 4, 8, 9, 13, 15, 33, 34, 50, 51, 52] (.c (.q 54 [] (.ia 1 (.t 50) (.t 52))) (.c (.q 55 [] (.ld (.t 54))) (.c (.q 15 [] (.mv (.t 55))) .nil)))) t_iConductLine_3)) t_iConductLine_4)
theorem u_iConductLine_5 (P : Program) (k : KT) (e : Env) (w : World) : vcK P t_iConductLine_5 k e w = vcK P (.seq (.blk 3 (.seq (.reg [2, 3, 4, 8, 9, 13, 15, 33, 34, 50, 51, 52] (.c (.q 54 [] (.ia 1 (.t 50) (.t 52))) (.c (.q 55 [] (.ld (.t 54))) (.c (.q 15 [] (.mv (.t 55))) .nil)))) t_iConductLine_3)) t_iConductLine_4) k e w := rfl
def t_iConductLine_6 : X := (.seq (.cond (.t 53) .skip (.exit 2)) t_iConductLine_5)
theorem u_iConductLine_6 (P : Program) (k : KT) (e : Env) (w : World) : vcK P t_iConductLine_6 k e w = vcK P (.seq (.cond (.t 53) .skip (.exit 2)) t_iConductLine_5) k e w := rfl
def t_iConductLine_7 : X := (.seq (.reg [2, 3, 4, 8, 9, 13, 33, 34, 50, 51, 52, 53] (.c (.q 53 [] (.bin .lss (.t 52) (.t 51))) .nil)) t_iConductLine_6)
theorem u_iConductLine_7 (P : Program) (k : KT) (e : Env) (w : World) : vcK P t_iConductLine_7 k e w = vcK P (.seq (.reg [2, 3, 4, 8, 9, 13, 33, 34, 50, 51, 52, 53] (.c (.q 53 [] (.bin .lss (.t 52) (.t 51))) .nil)) t_iConductLine_6) k e w := rfl
def t_iConductLine_8 : X := (.blk 2 (.loop [13, 52] [2, 3, 4, 8, 9, 33, 34, 50, 51] t_iConductLine_7))
theorem u_iConductLine_8 (P : Program) (k : KT) (e : Env) (w : World) : vcK P t_iConductLine_8 k e w = vcK P (.blk 2 (.loop [13, 52] [2, 3, 4, 8, 9, 33, 34, 50, 51] t_iConductLine_7)) k e w := rfl
def t_iConductLine_9 : X := (.reg [2, 3, 4, 8, 9, 33, 34] (.c (.q 65 [] (.mv (.t 9))) (.c (.q 66 [] (.mv (.t 8))) (.c (.e (some 67) [] (.bsl 9 1 [(.t 66)])) (.c (.e (some 68) [] (.app 42 9 1 16 [(S [])] 42 (.t 65) (.t 67))) (.c (.q 9 [] (.mv (.t 68))) .nil))))))
theorem u_iConductLine_9 (P : Program) (k : KT) (e : Env) (w : World) : vcK P t_iConductLine_9 k e w = vcK P (.reg [2, 3, 4, 8, 9, 33, 34] (.c (.q 65 [] (.mv (.t 9))) (.c (.q 66 [] (.mv (.t 8))) (.c (.e (some 67) [] (.bsl 9 1 [(.t 66)])) (.c (.e (some 68) [] (.app 42 9 1 16 [(S [])] 42 (.t 65) (.t 67))) (.c (.q 9 [] (.mv (.t 68))) .nil)))))) k e w := rfl
def t_iConductLine_10 : X := (.seq (.reg [2, 3, 4, 8, 9, 33, 34] (.c (.q 64 [] (.mv (.t 13))) (.c (.q 8 [] (.mv (.t 64))) .nil))) t_iConductLine_9)
theorem u_iConductLine_10 (P : Program) (k : KT) (e : Env) (w : World) : vcK P t_iConductLine_10 k e w = vcK P (.seq (.reg [2, 3, 4, 8, 9, 33, 34] (.c (.q 64 [] (.mv (.t 13))) (.c (.q 8 [] (.mv (.t 64))) .nil))) t_iConductLine_9) k e w := rfl
def t_iConductLine_11 : X := (.seq (.seq (.reg [2, 3, 4, 8, 9, 13, 33, 34, 50, 51, 52] (.c (.q 50 [] (.mv (.t 11))) (.c (.q 51 [] (.lens (.t 50))) (.c (.q 52 [] (.mv (.c (.int .i64 0)))) .nil)))) t_iConductLine_8) t_iConductLine_10)
theorem u_iConductLine_11 (P : Program) (k : KT) (e : Env) (w : World) : vcK P t_iConductLine_11 k e w = vcK P (.seq (.seq (.reg [2, 3, 4, 8, 9, 13, 33, 34, 50, 51, 52] (.c (.q 50 [] (.mv (.t 11))) (.c (.q 51 [] (.lens (.t 50))) (.c (.q 52 [] (.mv (.c (.int .i64 0)))) .nil)))) t_iConductLine_8) t_iConductLine_10) k e w := rfl
def t_iConductLine_12 : X := (.seq (.reg [2, 3, 4, 8, 9, 11, 13, 33, 34] (.c (.q 13 [] (.mv (.s []))) .nil)) t_iConductLine_11)
theorem u_iConductLine_12 (P : Program) (k : KT) (e : Env) (w : World) : vcK P t_iConductLine_12 k e w = vcK P (.seq (.reg [2, 3, 4, 8, 9, 11, 13, 33, 34] (.c (.q 13 [] (.mv (.s []))) .nil)) t_iConductLine_11) k e w := rfl
def t_iConductLine_13 : X := (.seq (.seq (.reg [2, 3, 4, 8, 9, 11, 33, 34, 49] (.c (.q 48 [] (.mv (.t 12))) (.c (.q 49 [] (.not (.t 48))) .nil))) t_iConductLine_2) t_iConductLine_12)
theorem u_iConductLine_13 (P : Program) (k : KT) (e : Env) (w : World) : vcK P t_iConductLine_13 k e w = vcK P (.seq (.seq (.reg [2, 3, 4, 8, 9, 11, 33, 34, 49] (.c (.q 48 [] (.mv (.t 12))) (.c (.q 49 [] (.not (.t 48))) .nil))) t_iConductLine_2) t_iConductLine_12) k e w := rfl
def t_iConductLine_14 : X := (.seq (.drw [2, 3, 4, 8, 9, 11, 12, 33, 34] (.c (.q 38 [] (.lda 3 (.t 3))) (.c (.q 39 [] (.lda 2 (.t 4))) (.c (.q 40 [] (.mv (.t 2))) (.c (.q 41 [] (.mv (.t 10))) (.c (.q 42 [] (.mv (.t 10))) (.c (.q 43 [] (.bin .add (.t 42) (.c (.int .i64 1)))) (.c (.q 44 [] (.sub (.t 40) (some (.t 41)) (some (.t 43)))) (.c (.e (some 45) [] (.call false 186 [(.t 38), (.t 39), (.t 44)])) (.c (.q 37 [] (.mv (.t 45))) (.c (.q 46 [] (.ext 0 (.t 37))) (.c (.q 47 [] (.ext 1 (.t 37))) (.c (.q 11 [] (.mv (.t 46))) (.c (.q 12 [] (.mv (.t 47))) .nil)))))))))))))) t_iConductLine_13)
theorem u_iConductLine_14 (P : Program) (k : KT) (e : Env) (w : World) : vcK P t_iConductLine_14 k e w = vcK P (.seq (.drw [2, 3, 4, 8, 9, 11, 12, 33, 34] (.c (.q 38 [] (.lda 3 (.t 3))) (.c (.q 39 [] (.lda 2 (.t 4))) (.c (.q 40 [] (.mv (.t 2))) (.c (.q 41 [] (.mv (.t 10))) (.c (.q 42 [] (.mv (.t 10))) (.c (.q 43 [] (.bin .add (.t 42) (.c (.int .i64 1)))) (.c (.q 44 [] (.sub (.t 40) (some (.t 41)) (some (.t 43)))) (.c (.e (some 45) [] (.call false 186 [(.t 38), (.t 39), (.t 44)])) (.c (.q 37 [] (.mv (.t 45))) (.c (.q 46 [] (.ext 0 (.t 37))) (.c (.q 47 [] (.ext 1 (.t 37))) (.c (.q 11 [] (.mv (.t 46))) (.c (.q 12 [] (.mv (.t 47))) .nil)))))))))))))) t_iConductLine_13) k e w := rfl
def t_iConductLine_15 : X := (.reg [2, 3, 4, 8, 9, 33, 34] (.c (.q 69 [] (.bin .add (.t 34) (.c (.int .i64 1)))) (.c (.q 34 [] (.mv (.t 69))) .nil)))
theorem u_iConductLine_15 (P : Program) (k : KT) (e : Env) (w : World) : vcK P t_iConductLine_15 k e w = vcK P (.reg [2, 3, 4, 8, 9, 33, 34] (.c (.q 69 [] (.bin .add (.t 34) (.c (.int .i64 1)))) (.c (.q 34 [] (.mv (.t 69))) .nil))) k e w := rfl
def t_iConductLine_16 : X := (.seq (.blk 1 (.seq (.reg [2, 3, 4, 8, 9, 10, 33, 34] (.c (.q 36 [] (.mv (.t 34))) (.c (.q 10 [] (.mv (.t 36))) .nil))) t_iConductLine_14)) t_iConductLine_15)
theorem u_iConductLine_16 (P : Program) (k : KT) (e : Env) (w : World) : vcK P t_iConductLine_16 k e w = vcK P (.seq (.blk 1 (.seq (.reg [2, 3, 4, 8, 9, 10, 33, 34] (.c (.q 36 [] (.mv (.t 34))) (.c (.q 10 [] (.mv (.t 36))) .nil))) t_iConductLine_14)) t_iConductLine_15) k e w := rfl
def t_iConductLine_17 : X := (.seq (.cond (.t 35) .skip (.exit 0)) t_iConductLine_16)
theorem u_iConductLine_17 (P : Program) (k : KT) (e : Env) (w : World) : vcK P t_iConductLine_17 k e w = vcK P (.seq (.cond (.t 35) .skip (.exit 0)) t_iConductLine_16) k e w := rfl
def t_iConductLine_18 : X := (.seq (.reg [2, 3, 4, 8, 9, 33, 34, 35] (.c (.q 35 [] (.bin .lss (.t 34) (.t 33))) .nil)) t_iConductLine_17)
theorem u_iConductLine_18 (P : Program) (k : KT) (e : Env) (w : World) : vcK P t_iConductLine_18 k e w = vcK P (.seq (.reg [2, 3, 4, 8, 9, 33, 34, 35] (.c (.q 35 [] (.bin .lss (.t 34) (.t 33))) .nil)) t_iConductLine_17) k e w := rfl
def t_iConductLine_19 : X := (.blk 0 (.loop [8, 9, 34] [2, 3, 4, 33] t_iConductLine_18))
theorem u_iConductLine_19 (P : Program) (k : KT) (e : Env) (w : World) : vcK P t_iConductLine_19 k e w = vcK P (.blk 0 (.loop [8, 9, 34] [2, 3, 4, 33] t_iConductLine_18)) k e w := rfl
def t_iConductLine_20 : X := (.seq (.reg [6, 7] (.c (.q 70 [] (.mv (.t 9))) (.c (.q 6 [] (.mv (.t 70))) (.c (.q 7 [] (.mv (.c (.bool true)))) .nil)))) .ret)
theorem u_iConductLine_20 (P : Program) (k : KT) (e : Env) (w : World) : vcK P t_iConductLine_20 k e w = vcK P (.seq (.reg [6, 7] (.c (.q 70 [] (.mv (.t 9))) (.c (.q 6 [] (.mv (.t 70))) (.c (.q 7 [] (.mv (.c (.bool true)))) .nil)))) .ret) k e w := rfl
def t_iConductLine_21 : X := (.seq (.seq (.reg [2, 3, 4, 8, 9, 33, 34] (.c (.q 32 [] (.mv (.t 2))) (.c (.q 33 [] (.len (.t 32))) (.c (.q 34 [] (.mv (.c (.int .i64 0)))) .nil)))) t_iConductLine_19) t_iConductLine_20)
theorem u_iConductLine_21 (P : Program) (k : KT) (e : Env) (w : World) : vcK P t_iConductLine_21 k e w = vcK P (.seq (.seq (.reg [2, 3, 4, 8, 9, 33, 34] (.c (.q 32 [] (.mv (.t 2))) (.c (.q 33 [] (.len (.t 32))) (.c (.q 34 [] (.mv (.c (.int .i64 0)))) .nil)))) t_iConductLine_19) t_iConductLine_20) k e w := rfl
def t_iConductLine_22 : X := (.seq (.reg [2, 3, 4, 8, 9] (.c (.q 30 [] (.mv (.t 8))) (.c (.e (some 31) [] (.bsl 9 1 [(.t 30)])) (.c (.q 9 [] (.mv (.t 31))) .nil)))) t_iConductLine_21)
theorem u_iConductLine_22 (P : Program) (k : KT) (e : Env) (w : World) : vcK P t_iConductLine_22 k e w = vcK P (.seq (.reg [2, 3, 4, 8, 9] (.c (.q 30 [] (.mv (.t 8))) (.c (.e (some 31) [] (.bsl 9 1 [(.t 30)])) (.c (.q 9 [] (.mv (.t 31))) .nil)))) t_iConductLine_21) k e w := rfl
def t_iConductLine_23 : X := (.seq (.reg [2, 3, 4, 8] (.c (.q 26 [] (.fa 1 (.t 3))) (.c (.q 27 [] (.ld (.t 26))) (.c (.e (some 28) [] (.call false 161 [(.t 27)])) (.c (.e (some 29) [] (.call false 185 [(.t 28)])) (.c (.q 8 [] (.mv (.t 29))) .nil)))))) t_iConductLine_22)
theorem u_iConductLine_23 (P : Program) (k : KT) (e : Env) (w : World) : vcK P t_iConductLine_23 k e w = vcK P (.seq (.reg [2, 3, 4, 8] (.c (.q 26 [] (.fa 1 (.t 3))) (.c (.q 27 [] (.ld (.t 26))) (.c (.e (some 28) [] (.call false 161 [(.t 27)])) (.c (.e (some 29) [] (.call false 185 [(.t 28)])) (.c (.q 8 [] (.mv (.t 29))) .nil)))))) t_iConductLine_22) k e w := rfl
def t_iConductLine_24 : X := (.seq (.seq (.reg [2, 3, 4, 25] (.c (.q 16 [] (.lda 3 (.t 3))) (.c (.e (some 17) [] (.call false 183 [(.t 16)])) (.c (.q 18 [] (.not (.t 17))) (.c (.q 19 [] (.mv (.t 18))) (.c (.q 20 [(19, false)] (.lda 3 (.t 3))) (.c (.q 21 [(19, false)] (.lda 2 (.t 4))) (.c (.q 22 [(19, false)] (.mv (.t 2))) (.c (.e (some 23) [(19, false)] (.call false 184 [(.t 20), (.t 21), (.t 22)])) (.c (.q 24 [(19, false)] (.not (.t 23))) (.c (.q 25 [] (.pick (.t 19) (.c (.bool true)) (.t 24))) .nil))))))))))) t_iConductLine_1) t_iConductLine_23)
theorem u_iConductLine_24 (P : Program) (k : KT) (e : Env) (w : World) : vcK P t_iConductLine_24 k e w = vcK P (.seq (.seq (.reg [2, 3, 4, 25] (.c (.q 16 [] (.lda 3 (.t 3))) (.c (.e (some 17) [] (.call false 183 [(.t 16)])) (.c (.q 18 [] (.not (.t 17))) (.c (.q 19 [] (.mv (.t 18))) (.c (.q 20 [(19, false)] (.lda 3 (.t 3))) (.c (.q 21 [(19, false)] (.lda 2 (.t 4))) (.c (.q 22 [(19, false)] (.mv (.t 2))) (.c (.e (some 23) [(19, false)] (.call false 184 [(.t 20), (.t 21), (.t 22)])) (.c (.q 24 [(19, false)] (.not (.t 23))) (.c (.q 25 [] (.pick (.t 19) (.c (.bool true)) (.t 24))) .nil))))))))))) t_iConductLine_1) t_iConductLine_23) k e w := rfl
def x_iConductLine : X := (.seq (.reg [2, 3, 4] (.c (.e (some 3) [] (.box 58 (.t 0))) (.c (.e (some 4) [] (.box 47 (.t 1))) (.c (.q 6 [] (.mv (.c (.slice none 0 0)))) (.c (.q 7 [] (.mv (.c (.bool false)))) .nil))))) t_iConductLine_24)
theorem u_iConductLine (P : Program) (k : KT) (e : Env) (w : World) : vcK P x_iConductLine k e w = vcK P (.seq (.reg [2, 3, 4] (.c (.e (some 3) [] (.box 58 (.t 0))) (.c (.e (some 4) [] (.box 47 (.t 1))) (.c (.q 6 [] (.mv (.c (.slice none 0 0)))) (.c (.q 7 [] (.mv (.c (.bool false)))) .nil))))) t_iConductLine_24) k e w := rfl
def r_iConductLine : List XO := [(.mv (.t 6)), (.mv (.t 7))]
theorem c_iConductLine : convF Try.prog [145, 147, 148, 149, 158, 205, 206, 232, 234, 247, 248, 256, 261, 283, 284, 299, 300, 307] Try.f44 [([2, 3, 4], []), ([2, 3, 4, 25], []), ([6, 7], []), ([2, 3, 4, 8], []), ([2, 3, 4, 8, 9], []), ([2, 3, 4, 8, 9, 33, 34], []), ([8, 9, 34], [2, 3, 4, 33]), ([2, 3, 4, 8, 9, 33, 34, 35], []), ([2, 3, 4, 8, 9, 10, 33, 34], []), ([2, 3, 4, 8, 9, 11, 12, 33, 34], []), ([2, 3, 4, 8, 9, 11, 33, 34, 49], []), ([6, 7], []), ([2, 3, 4, 8, 9, 11, 13, 33, 34], []), ([2, 3, 4, 8, 9, 13, 33, 34, 50, 51, 52], []), ([13, 52], [2, 3, 4, 8, 9, 33, 34, 50, 51]), ([2, 3, 4, 8, 9, 13, 33, 34, 50, 51, 52, 53], []), ([2, 3, 4, 8, 9, 13, 15, 33, 34, 50, 51, 52], []), ([2, 3, 4, 8, 9, 13, 33, 34, 50, 51, 52], []), ([2, 3, 4, 8, 9, 13, 33, 34, 50, 51, 52], []), ([2, 3, 4, 8, 9, 33, 34], []), ([2, 3, 4, 8, 9, 33, 34], []), ([2, 3, 4, 8, 9, 33, 34], []), ([6, 7], [])] = some (x_iConductLine, r_iConductLine) := by kernel_rfl
def us_iConductLine := And.intro @u_iConductLine (And.intro @u_iConductLine_1 (And.intro @u_iConductLine_2 (And.intro @u_iConductLine_3 (And.intro @u_iConductLine_4 (And.intro @u_iConductLine_5 (And.intro @u_iConductLine_6 (And.intro @u_iConductLine_7 (And.intro @u_iConductLine_8 (And.intro @u_iConductLine_9 (And.intro @u_iConductLine_10 (And.intro @u_iConductLine_11 (And.intro @u_iConductLine_12 (And.intro @u_iConductLine_13 (And.intro @u_iConductLine_14 (And.intro @u_iConductLine_15 (And.intro @u_iConductLine_16 (And.intro @u_iConductLine_17 (And.intro @u_iConductLine_18 (And.intro @u_iConductLine_19 (And.intro @u_iConductLine_20 (And.intro @u_iConductLine_21 (And.intro @u_iConductLine_22 (And.intro @u_iConductLine_23 @u_iConductLine_24)))))))))))))))))))))))
def t_sConductLine_1 : X := (.cond (.t 25) (.seq (.reg [6, 7] (.c (.q 6 [] (.mv (.c (.slice none 0 0)))) (.c (.q 7 [] (.mv (.c (.bool false)))) .nil))) .ret) .skip)
theorem u_sConductLine_1 (P : Program) (k : KT) (e : Env) (w : World) : vcK P t_sConductLine_1 k e w = vcK P (.cond (.t 25) (.seq (.reg [6, 7] (.c (.q 6 [] (.mv (.c (.slice none 0 0)))) (.c (.q 7 [] (.mv (.c (.bool false)))) .nil))) .ret) .skip) k e w := rfl
def t_sConductLine_2 : X := (.cond (.t 49) (.seq (.reg [6, 7] (.c (.q 6 [] (.mv (.c (.slice none 0 0)))) (.c (.q 7 [] (.mv (.c (.bool false)))) .nil))) .ret) .skip)
theorem u_sConductLine_2 (P : Program) (k : KT) (e : Env) (w : World) : vcK P t_sConductLine_2 k e w = vcK P (.cond (.t 49) (.seq (.reg [6, 7] (.c (.q 6 [] (.mv (.c (.slice none 0 0)))) (.c (.q 7 [] (.mv (.c (.bool false)))) .nil))) .ret) .skip) k e w := rfl
def t_sConductLine_3 : X := (.reg [2, 3, 4, 8, 9, 13, 33, 50, 51, 52] (.c (.q 56 [] (.mv (.t 13))) (.c (.q 57 [] (.mv (.t 8))) (.c (.q 58 [] (.mv (.t 15))) (.c (.q 59 [] (.mv (.t 15))) (.c (.q 60 [] (.bin .add (.t 59) (.c (.int .i64 1)))) (.c (.q 61 [] (.sub (.t 57) (some (.t 58)) (some (.t 60)))) (.c (.q 62 [] (.bin .add (.t 56) (.t 61))) (.c (.q 13 [] (.mv (.t 62))) .nil)))))))))
theorem u_sConductLine_3 (P : Program) (k : KT) (e : Env) (w : World) : vcK P t_sConductLine_3 k e w = vcK P (.reg [2, 3, 4, 8, 9, 13, 33, 50, 51, 52] (.c (.q 56 [] (.mv (.t 13))) (.c (.q 57 [] (.mv (.t 8))) (.c (.q 58 [] (.mv (.t 15))) (.c (.q 59 [] (.mv (.t 15))) (.c (.q 60 [] (.bin .add (.t 59) (.c (.int .i64 1)))) (.c (.q 61 [] (.sub (.t 57) (some (.t 58)) (some (.t 60)))) (.c (.q 62 [] (.bin .add (.t 56) (.t 61))) (.c (.q 13 [] (.mv (.t 62))) .nil))))))))) k e w := rfl
def t_sConductLine_4 : X := (.reg [2, 3, 4, 8, 9, 13, 33, 50, 51, 52] (.c (.q 63 [] (.bin .add (.t 52) (.c (.int .i64 1)))) (.c (.q 52 [] (.mv (.t 63))) .nil)))
theorem u_sConductLine_4 (P : Program) (k : KT) (e : Env) (w : World) : vcK P t_sConductLine_4 k e w = vcK P (.reg [2, 3, 4, 8, 9, 13, 33, 50, 51, 52] (.c (.q 63 [] (.bin .add (.t 52) (.c (.int .i64 1)))) (.c (.q 52 [] (.mv (.t 63))) .nil))) k e w := rfl
def t_sConductLine_5 : X := (.seq (.blk 3 (.seq (.reg [2, 3, 4, 8, 9, 13, 15, 33, 50, 51, 52] (.c (.q 54 [] (.ia 1 (.t 50) (.t 52))) (.c (.q 55 [] (.ld (.t 54))) (.c (.q 15 [] (.mv (.t 55))) .nil)))) t_sConductLine_3)) t_sConductLine_4)
theorem u_sConductLine_5 (P : Program) (k : KT) (e : Env) (w : World) : vcK P t_sConductLine_5 k e w = vcK P (.seq (.blk 3 (.seq (.reg [2, 3, 4, 8, 9, 13, 15, 33, 50, 51, 52] (.c (.q 54 [] (.ia 1 (.t 50) (.t 52))) (.c (.q 55 [] (.ld (.t 54))) (.c (.q 15 [] (.mv (.t 55))) .nil)))) t_sConductLine_3)) t_sConductLine_4) k e w := rfl
def t_sConductLine_6 : X := (.seq (.cond (.t 53) .skip (.exit 2)) t_sConductLine_5)
theorem u_sConductLine_6 (P : Program) (k : KT) (e : Env) (w : World) : vcK P t_sConductLine_6 k e w = vcK P (.seq (.cond (.t 53) .skip (.exit 2)) t_sConductLine_5) k e w := rfl
def t_sConductLine_7 : X := (.seq (.reg [2, 3, 4, 8, 9, 13, 33, 50, 51, 52, 53] (.c (.q 53 [] (.bin .lss (.t 52) (.t 51))) .nil)) t_sConductLine_6)
theorem u_sConductLine_7 (P : Program) (k : KT) (e : Env) (w : World) : vcK P t_sConductLine_7 k e w = vcK P (.seq (.reg [2, 3, 4, 8, 9, 13, 33, 50, 51, 52, 53] (.c (.q 53 [] (.bin .lss (.t 52) (.t 51))) .nil)) t_sConductLine_6) k e w := rfl
def t_sConductLine_8 : X := (.blk 2 (.loop [13, 52] [2, 3, 4, 8, 9, 33, 50, 51] t_sConductLine_7))
theorem u_sConductLine_8 (P : Program) (k : KT) (e : Env) (w : World) : vcK P t_sConductLine_8 k e w = vcK P (.blk 2 (.loop [13, 52] [2, 3, 4, 8, 9, 33, 50, 51] t_sConductLine_7)) k e w := rfl
def t_sConductLine_9 : X := (.reg [2, 3, 4, 8, 9, 33] (.c (.q 65 [] (.mv (.t 9))) (.c (.q 66 [] (.mv (.t 8))) (.c (.e (some 67) [] (.bsl 9 1 [(.t 66)])) (.c (.e (some 68) [] (.app 42 9 1 16 [(S [])] 42 (.t 65) (.t 67))) (.c (.q 9 [] (.mv (.t 68))) .nil))))))
theorem u_sConductLine_9 (P : Program) (k : KT) (e : Env) (w : World) : vcK P t_sConductLine_9 k e w = vcK P (.reg [2, 3, 4, 8, 9, 33] (.c (.q 65 [] (.mv (.t 9))) (.c (.q 66 [] (.mv (.t 8))) (.c (.e (some 67) [] (.bsl 9 1 [(.t 66)])) (.c (.e (some 68) [] (.app 42 9 1 16 [(S [])] 42 (.t 65) (.t 67))) (.c (.q 9 [] (.mv (.t 68))) .nil)))))) k e w := rfl
def t_sConductLine_10 : X := (.seq (.reg [2, 3, 4, 8, 9, 33] (.c (.q 64 [] (.mv (.t 13))) (.c (.q 8 [] (.mv (.t 64))) .nil))) t_sConductLine_9)
theorem u_sConductLine_10 (P : Program) (k : KT) (e : Env) (w : World) : vcK P t_sConductLine_10 k e w = vcK P (.seq (.reg [2, 3, 4, 8, 9, 33] (.c (.q 64 [] (.mv (.t 13))) (.c (.q 8 [] (.mv (.t 64))) .nil))) t_sConductLine_9) k e w := rfl
def t_sConductLine_11 : X := (.seq (.seq (.reg [2, 3, 4, 8, 9, 13, 33, 50, 51, 52] (.c (.q 50 [] (.mv (.t 11))) (.c (.q 51 [] (.lens (.t 50))) (.c (.q 52 [] (.mv (.c (.int .i64 0)))) .nil)))) t_sConductLine_8) t_sConductLine_10)
theorem u_sConductLine_11 (P : Program) (k : KT) (e : Env) (w : World) : vcK P t_sConductLine_11 k e w = vcK P (.seq (.seq (.reg [2, 3, 4, 8, 9, 13, 33, 50, 51, 52] (.c (.q 50 [] (.mv (.t 11))) (.c (.q 51 [] (.lens (.t 50))) (.c (.q 52 [] (.mv (.c (.int .i64 0)))) .nil)))) t_sConductLine_8) t_sConductLine_10) k e w := rfl
def t_sConductLine_12 : X := (.seq (.reg [2, 3, 4, 8, 9, 11, 13, 33] (.c (.q 13 [] (.mv (.s []))) .nil)) t_sConductLine_11)
theorem u_sConductLine_12 (P : Program) (k : KT) (e : Env) (w : World) : vcK P t_sConductLine_12 k e w = vcK P (.seq (.reg [2, 3, 4, 8, 9, 11, 13, 33] (.c (.q 13 [] (.mv (.s []))) .nil)) t_sConductLine_11) k e w := rfl
def t_sConductLine_13 : X := (.seq (.seq (.reg [2, 3, 4, 8, 9, 11, 33, 49] (.c (.q 48 [] (.mv (.t 12))) (.c (.q 49 [] (.not (.t 48))) .nil))) t_sConductLine_2) t_sConductLine_12)
theorem u_sConductLine_13 (P : Program) (k : KT) (e : Env) (w : World) : vcK P t_sConductLine_13 k e w = vcK P (.seq (.seq (.reg [2, 3, 4, 8, 9, 11, 33, 49] (.c (.q 48 [] (.mv (.t 12))) (.c (.q 49 [] (.not (.t 48))) .nil))) t_sConductLine_2) t_sConductLine_12) k e w := rfl
def t_sConductLine_14 : X := (.seq (.drw [2, 3, 4, 8, 9, 11, 12, 33] (.c (.q 38 [] (.lda 3 (.t 3))) (.c (.q 39 [] (.lda 2 (.t 4))) (.c (.q 40 [] (.mv (.t 2))) (.c (.q 41 [] (.mv (.t 10))) (.c (.q 42 [] (.mv (.t 10))) (.c (.q 43 [] (.bin .add (.t 42) (.c (.int .i64 1)))) (.c (.q 44 [] (.sub (.t 40) (some (.t 41)) (some (.t 43)))) (.c (.e (some 45) [] (.call false 181 [(.t 38), (.t 39), (.t 44)])) (.c (.q 37 [] (.mv (.t 45))) (.c (.q 46 [] (.ext 0 (.t 37))) (.c (.q 47 [] (.ext 1 (.t 37))) (.c (.q 11 [] (.mv (.t 46))) (.c (.q 12 [] (.mv (.t 47))) .nil)))))))))))))) t_sConductLine_13)
theorem u_sConductLine_14 (P : Program) (k : KT) (e : Env) (w : World) : vcK P t_sConductLine_14 k e w = vcK P (.seq (.drw [2, 3, 4, 8, 9, 11, 12, 33] (.c (.q 38 [] (.lda 3 (.t 3))) (.c (.q 39 [] (.lda 2 (.t 4))) (.c (.q 40 [] (.mv (.t 2))) (.c (.q 41 [] (.mv (.t 10))) (.c (.q 42 [] (.mv (.t 10))) (.c (.q 43 [] (.bin .add (.t 42) (.c (.int .i64 1)))) (.c (.q 44 [] (.sub (.t 40) (some (.t 41)) (some (.t 43)))) (.c (.e (some 45) [] (.call false 181 [(.t 38), (.t 39), (.t 44)])) (.c (.q 37 [] (.mv (.t 45))) (.c (.q 46 [] (.ext 0 (.t 37))) (.c (.q 47 [] (.ext 1 (.t 37))) (.c (.q 11 [] (.mv (.t 46))) (.c (.q 12 [] (.mv (.t 47))) .nil)))))))))))))) t_sConductLine_13) k e w := rfl
def t_sConductLine_15 : X := (.blk 1 (.seq (.reg [2, 3, 4, 8, 9, 10, 33] (.c (.q 36 [] (.ext 1 (.t 34))) (.c (.q 10 [] (.mv (.t 36))) .nil))) t_sConductLine_14))
theorem u_sConductLine_15 (P : Program) (k : KT) (e : Env) (w : World) : vcK P t_sConductLine_15 k e w = vcK P (.blk 1 (.seq (.reg [2, 3, 4, 8, 9, 10, 33] (.c (.q 36 [] (.ext 1 (.t 34))) (.c (.q 10 [] (.mv (.t 36))) .nil))) t_sConductLine_14)) k e w := rfl
def t_sConductLine_16 : X := (.seq (.cond (.t 35) .skip (.exit 0)) t_sConductLine_15)
theorem u_sConductLine_16 (P : Program) (k : KT) (e : Env) (w : World) : vcK P t_sConductLine_16 k e w = vcK P (.seq (.cond (.t 35) .skip (.exit 0)) t_sConductLine_15) k e w := rfl
def t_sConductLine_17 : X := (.seq (.reg [2, 3, 4, 8, 9, 33, 34, 35] (.c (.e (some 34) [] (.nxt (.t 33))) (.c (.q 35 [] (.ext 0 (.t 34))) .nil))) t_sConductLine_16)
theorem u_sConductLine_17 (P : Program) (k : KT) (e : Env) (w : World) : vcK P t_sConductLine_17 k e w = vcK P (.seq (.reg [2, 3, 4, 8, 9, 33, 34, 35] (.c (.e (some 34) [] (.nxt (.t 33))) (.c (.q 35 [] (.ext 0 (.t 34))) .nil))) t_sConductLine_16) k e w := rfl
def t_sConductLine_18 : X := (.blk 0 (.loop [8, 9] [2, 3, 4, 33] t_sConductLine_17))
theorem u_sConductLine_18 (P : Program) (k : KT) (e : Env) (w : World) : vcK P t_sConductLine_18 k e w = vcK P (.blk 0 (.loop [8, 9] [2, 3, 4, 33] t_sConductLine_17)) k e w := rfl
def t_sConductLine_19 : X := (.seq (.reg [6, 7] (.c (.q 69 [] (.mv (.t 9))) (.c (.q 6 [] (.mv (.t 69))) (.c (.q 7 [] (.mv (.c (.bool true)))) .nil)))) .ret)
theorem u_sConductLine_19 (P : Program) (k : KT) (e : Env) (w : World) : vcK P t_sConductLine_19 k e w = vcK P (.seq (.reg [6, 7] (.c (.q 69 [] (.mv (.t 9))) (.c (.q 6 [] (.mv (.t 69))) (.c (.q 7 [] (.mv (.c (.bool true)))) .nil)))) .ret) k e w := rfl
def t_sConductLine_20 : X := (.seq (.seq (.reg [2, 3, 4, 8, 9, 33] (.c (.q 32 [] (.mv (.t 2))) (.c (.e (some 33) [] (.rng (.t 32))) .nil))) t_sConductLine_18) t_sConductLine_19)
theorem u_sConductLine_20 (P : Program) (k : KT) (e : Env) (w : World) : vcK P t_sConductLine_20 k e w = vcK P (.seq (.seq (.reg [2, 3, 4, 8, 9, 33] (.c (.q 32 [] (.mv (.t 2))) (.c (.e (some 33) [] (.rng (.t 32))) .nil))) t_sConductLine_18) t_sConductLine_19) k e w := rfl
def t_sConductLine_21 : X := (.seq (.reg [2, 3, 4, 8, 9] (.c (.q 30 [] (.mv (.t 8))) (.c (.e (some 31) [] (.bsl 9 1 [(.t 30)])) (.c (.q 9 [] (.mv (.t 31))) .nil)))) t_sConductLine_20)
theorem u_sConductLine_21 (P : Program) (k : KT) (e : Env) (w : World) : vcK P t_sConductLine_21 k e w = vcK P (.seq (.reg [2, 3, 4, 8, 9] (.c (.q 30 [] (.mv (.t 8))) (.c (.e (some 31) [] (.bsl 9 1 [(.t 30)])) (.c (.q 9 [] (.mv (.t 31))) .nil)))) t_sConductLine_20) k e w := rfl
def t_sConductLine_22 : X := (.seq (.reg [2, 3, 4, 8] (.c (.q 26 [] (.fa 1 (.t 3))) (.c (.q 27 [] (.ld (.t 26))) (.c (.e (some 28) [] (.call false 180 [(.t 27)])) (.c (.e (some 29) [] (.call false 179 [(.t 28)])) (.c (.q 8 [] (.mv (.t 29))) .nil)))))) t_sConductLine_21)
theorem u_sConductLine_22 (P : Program) (k : KT) (e : Env) (w : World) : vcK P t_sConductLine_22 k e w = vcK P (.seq (.reg [2, 3, 4, 8] (.c (.q 26 [] (.fa 1 (.t 3))) (.c (.q 27 [] (.ld (.t 26))) (.c (.e (some 28) [] (.call false 180 [(.t 27)])) (.c (.e (some 29) [] (.call false 179 [(.t 28)])) (.c (.q 8 [] (.mv (.t 29))) .nil)))))) t_sConductLine_21) k e w := rfl
def t_sConductLine_23 : X := (.seq (.seq (.reg [2, 3, 4, 25] (.c (.q 16 [] (.lda 3 (.t 3))) (.c (.e (some 17) [] (.call false 177 [(.t 16)])) (.c (.q 18 [] (.not (.t 17))) (.c (.q 19 [] (.mv (.t 18))) (.c (.q 20 [(19, false)] (.lda 3 (.t 3))) (.c (.q 21 [(19, false)] (.lda 2 (.t 4))) (.c (.q 22 [(19, false)] (.mv (.t 2))) (.c (.e (some 23) [(19, false)] (.call false 178 [(.t 20), (.t 21), (.t 22)])) (.c (.q 24 [(19, false)] (.not (.t 23))) (.c (.q 25 [] (.pick (.t 19) (.c (.bool true)) (.t 24))) .nil))))))))))) t_sConductLine_1) t_sConductLine_22)
theorem u_sConductLine_23 (P : Program) (k : KT) (e : Env) (w : World) : vcK P t_sConductLine_23 k e w = vcK P (.seq (.seq (.reg [2, 3, 4, 25] (.c (.q 16 [] (.lda 3 (.t 3))) (.c (.e (some 17) [] (.call false 177 [(.t 16)])) (.c (.q 18 [] (.not (.t 17))) (.c (.q 19 [] (.mv (.t 18))) (.c (.q 20 [(19, false)] (.lda 3 (.t 3))) (.c (.q 21 [(19, false)] (.lda 2 (.t 4))) (.c (.q 22 [(19, false)] (.mv (.t 2))) (.c (.e (some 23) [(19, false)] (.call false 178 [(.t 20), (.t 21), (.t 22)])) (.c (.q 24 [(19, false)] (.not (.t 23))) (.c (.q 25 [] (.pick (.t 19) (.c (.bool true)) (.t 24))) .nil))))))))))) t_sConductLine_1) t_sConductLine_22) k e w := rfl
def x_sConductLine : X := (.seq (.reg [2, 3, 4] (.c (.e (some 3) [] (.box 58 (.t 0))) (.c (.e (some 4) [] (.box 47 (.t 1))) (.c (.q 6 [] (.mv (.c (.slice none 0 0)))) (.c (.q 7 [] (.mv (.c (.bool false)))) .nil))))) t_sConductLine_23)
theorem u_sConductLine (P : Program) (k : KT) (e : Env) (w : World) : vcK P x_sConductLine k e w = vcK P (.seq (.reg [2, 3, 4] (.c (.e (some 3) [] (.box 58 (.t 0))) (.c (.e (some 4) [] (.box 47 (.t 1))) (.c (.q 6 [] (.mv (.c (.slice none 0 0)))) (.c (.q 7 [] (.mv (.c (.bool false)))) .nil))))) t_sConductLine_23) k e w := rfl
def r_sConductLine : List XO := [(.mv (.t 6)), (.mv (.t 7))]
theorem c_sConductLine : convF Try.prog [145, 147, 148, 149, 158, 205, 206, 232, 234, 247, 248, 256, 261, 283, 284, 299, 300, 307] Try.f42 [([2, 3, 4], []), ([2, 3, 4, 25], []), ([6, 7], []), ([2, 3, 4, 8], []), ([2, 3, 4, 8, 9], []), ([2, 3, 4, 8, 9, 33], []), ([8, 9], [2, 3, 4, 33]), ([2, 3, 4, 8, 9, 33, 34, 35], []), ([2, 3, 4, 8, 9, 10, 33], []), ([2, 3, 4, 8, 9, 11, 12, 33], []), ([2, 3, 4, 8, 9, 11, 33, 49], []), ([6, 7], []), ([2, 3, 4, 8, 9, 11, 13, 33], []), ([2, 3, 4, 8, 9, 13, 33, 50, 51, 52], []), ([13, 52], [2, 3, 4, 8, 9, 33, 50, 51]), ([2, 3, 4, 8, 9, 13, 33, 50, 51, 52, 53], []), ([2, 3, 4, 8, 9, 13, 15, 33, 50, 51, 52], []), ([2, 3, 4, 8, 9, 13, 33, 50, 51, 52], []), ([2, 3, 4, 8, 9, 13, 33, 50, 51, 52], []), ([2, 3, 4, 8, 9, 33], []), ([2, 3, 4, 8, 9, 33], []), ([6, 7], [])] = some (x_sConductLine, r_sConductLine) := by kernel_rfl
def us_sConductLine := And.intro @u_sConductLine (And.intro @u_sConductLine_1 (And.intro @u_sConductLine_2 (And.intro @u_sConductLine_3 (And.intro @u_sConductLine_4 (And.intro @u_sConductLine_5 (And.intro @u_sConductLine_6 (And.intro @u_sConductLine_7 (And.intro @u_sConductLine_8 (And.intro @u_sConductLine_9 (And.intro @u_sConductLine_10 (And.intro @u_sConductLine_11 (And.intro @u_sConductLine_12 (And.intro @u_sConductLine_13 (And.intro @u_sConductLine_14 (And.intro @u_sConductLine_15 (And.intro @u_sConductLine_16 (And.intro @u_sConductLine_17 (And.intro @u_sConductLine_18 (And.intro @u_sConductLine_19 (And.intro @u_sConductLine_20 (And.intro @u_sConductLine_21 (And.intro @u_sConductLine_22 @u_sConductLine_23))))))))))))))))))))))

/-- A touch. -/
def IsTch (l : List UInt8) : Prop := (1 ≤ l.length ∧ l.length ≤ 60) ∧ ∀ c ∈ l, IsCall [c]
instance (l : List UInt8) : Decidable (IsTch l) := by unfold IsTch; infer_instance
theorem tch_low {l : List UInt8} (h : IsTch l) : ∀ c ∈ l, c.toNat < 128 := fun c hc => by
  rcases h.2 c hc with h | h | h <;> (simp only [List.cons.injEq, and_true] at h; subst h; decide)
theorem map_take_suc {α β : Type} (f : α → β) (d : α) (l : List α) (k : Nat) (h : k < l.length) : (l.take (k + 1)).map f = (l.take k).map f ++ [f (l.getD k d)] := by
  rw [List.take_add_one, List.getElem?_eq_getElem h, List.getD_eq_getElem?_getD, List.getElem?_eq_getElem h, List.map_append]
  rfl
theorem iareCalls_okt (l : List UInt8) (hl : l.length ≤ 1000000000) (w : World) : Fn 240 [S l] w (fun r _ => r = .bool (decide (∀ c ∈ l, IsCall [c]))) := by
  (refine callsV_of mix Try.func240 c_iareCalls ?_; simp only [↓vsd, vsn, gW, qd, qv, ev, pick, argE, List.map_cons, List.map_nil, Option.map_some, Option.map_none, zipE, List.cons_append, List.nil_append, ne_eq, eq_self, forall_const, implies_true, if_true, if_false, reduceIte, List.cons.injEq, reduceCtorEq, Nat.reduceEqDiff, List.length_nil, List.length_cons, Nat.reduceAdd, Nat.reduceLT, List.set_cons_zero, List.set_cons_succ, ↓us_iareCalls, r_iareCalls])
  refine m_upto l.length (fun k vs w' => vs = [.int .i64 k] ∧ (∀ c ∈ l.take k, IsCall [c]) ∧ Ext w w') ⟨rfl, by simp, Ext.refl _⟩ ?_
  rintro k vs w1 hk ⟨rfl, hc, hx⟩
  by_cases hlt : k < l.length
  · have hltI : (k : Int) < l.length := by omega
    have hltJ : ¬ (l.length : Int) ≤ k := by omega
    have h1 := sub_one l k hlt
    simp only [↓vsd, vsn, gW, qd, qv, ev, pick, argE, List.map_cons, List.map_nil, Option.map_some, Option.map_none, zipE, List.cons_append, List.nil_append, ne_eq, eq_self, forall_const, implies_true, if_true, if_false, reduceIte, List.cons.injEq, reduceCtorEq, Nat.reduceEqDiff, List.length_nil, List.length_cons, Nat.reduceAdd, Nat.reduceLT, List.set_cons_zero, List.set_cons_succ, ↓us_iareCalls, r_iareCalls, hltI, hltJ]
    rw [h1]
    refine ⟨inR_i64 (by omega), by omega, m_call (iisCall_okc _ _) ?_⟩
    rintro _ w2 hx2 rfl
    have hx12 : Ext w w2 := by first | exact hx.trans hx2 | exact hx.trans (ud hx2)
    simp only [↓vsd, vsn, gW, qd, qv, ev, pick, argE, List.map_cons, List.map_nil, Option.map_some, Option.map_none, zipE, List.cons_append, List.nil_append, ne_eq, eq_self, forall_const, implies_true, if_true, if_false, reduceIte, List.cons.injEq, reduceCtorEq, Nat.reduceEqDiff, List.length_nil, List.length_cons, Nat.reduceAdd, Nat.reduceLT, List.set_cons_zero, List.set_cons_succ, ↓us_iareCalls, r_iareCalls]
    refine ⟨fun hno => ⟨hx12, ?_⟩, fun hyes => ⟨inR_i64 (by omega), UpTo.next hlt ⟨rfl, fun c hm => ?_, hx12⟩⟩⟩
    · rw [decide_eq_false fun hh => hno (hh _ (getD_mem 0 hlt))]
    · rcases mem_take (d := 0) hlt hm with h | rfl
      · exact hc c h
      · exact hyes
  · obtain rfl : k = l.length := by omega
    have hltI : ¬ (l.length : Int) < l.length := by omega
    simp only [↓vsd, vsn, gW, qd, qv, ev, pick, argE, List.map_cons, List.map_nil, Option.map_some, Option.map_none, zipE, List.cons_append, List.nil_append, ne_eq, eq_self, forall_const, implies_true, if_true, if_false, reduceIte, List.cons.injEq, reduceCtorEq, Nat.reduceEqDiff, List.length_nil, List.length_cons, Nat.reduceAdd, Nat.reduceLT, List.set_cons_zero, List.set_cons_succ, ↓us_iareCalls, r_iareCalls, hltI]
    rw [List.take_length] at hc
    exact ⟨hx, by rw [decide_eq_true hc]⟩
theorem iGoodTouch_okt (l : List UInt8) (hl : l.length ≤ 1000000000) (w : World) : Fn 106 [S l] w (fun r _ => r = .bool (decide (IsTch l))) := by
  (refine callsV_of mix Try.func106 c_iGoodTouch ?_; simp only [↓vsd, vsn, gW, qd, qv, ev, pick, argE, List.map_cons, List.map_nil, Option.map_some, Option.map_none, zipE, List.cons_append, List.nil_append, ne_eq, eq_self, forall_const, implies_true, if_true, if_false, reduceIte, List.cons.injEq, reduceCtorEq, Nat.reduceEqDiff, List.length_nil, List.length_cons, Nat.reduceAdd, Nat.reduceLT, List.set_cons_zero, List.set_cons_succ, ↓us_iGoodTouch, r_iGoodTouch])
  refine ⟨fun h => m_call (iareCalls_okt l hl _) ?_, fun h => ⟨Ext.refl _, ?_⟩⟩
  · rintro _ w1 hx1 rfl
    simp only [↓vsd, vsn, gW, qd, qv, ev, pick, argE, List.map_cons, List.map_nil, Option.map_some, Option.map_none, zipE, List.cons_append, List.nil_append, ne_eq, eq_self, forall_const, implies_true, if_true, if_false, reduceIte, List.cons.injEq, reduceCtorEq, Nat.reduceEqDiff, List.length_nil, List.length_cons, Nat.reduceAdd, Nat.reduceLT, List.set_cons_zero, List.set_cons_succ, ↓us_iGoodTouch, r_iGoodTouch]
    refine ⟨hx1, ?_⟩
    simp only [← Bool.decide_and]
    congr 1
    exact propext ⟨fun h2 => ⟨by omega, h2.2⟩, fun h2 => ⟨by omega, h2.2⟩⟩
  · have : ¬ IsTch l := fun h2 => h (by have := h2.1; omega)
    simp only [this, decide_false]
theorem sl9Good_okt (l : List UInt8) (hl : l.length ≤ 1000000000) (w : World) : Fn 241 [S l] w (fun r _ => r = .bool (decide (IsTch l))) := by
  (refine callsV_of mix Try.func241 c_sl9Good ?_; simp only [↓vsd, vsn, gW, qd, qv, ev, pick, argE, List.map_cons, List.map_nil, Option.map_some, Option.map_none, zipE, List.cons_append, List.nil_append, ne_eq, eq_self, forall_const, implies_true, if_true, if_false, reduceIte, List.cons.injEq, reduceCtorEq, Nat.reduceEqDiff, List.length_nil, List.length_cons, Nat.reduceAdd, Nat.reduceLT, List.set_cons_zero, List.set_cons_succ, ↓us_sl9Good, r_sl9Good])
  refine m_upto l.length (fun k vs w' => vs = [.int .i64 k] ∧ (∀ c ∈ l.take k, IsCall [c]) ∧ Ext w w') ⟨rfl, by simp, Ext.refl _⟩ ?_
  rintro k vs w1 hk ⟨rfl, hc, hx⟩
  by_cases hlt : k < l.length
  · have hltI : (k : Int) < l.length := by omega
    have hltJ : ¬ (l.length : Int) ≤ k := by omega
    have h1 := sub_one l k hlt
    simp only [↓vsd, vsn, gW, qd, qv, ev, pick, argE, List.map_cons, List.map_nil, Option.map_some, Option.map_none, zipE, List.cons_append, List.nil_append, ne_eq, eq_self, forall_const, implies_true, if_true, if_false, reduceIte, List.cons.injEq, reduceCtorEq, Nat.reduceEqDiff, List.length_nil, List.length_cons, Nat.reduceAdd, Nat.reduceLT, List.set_cons_zero, List.set_cons_succ, ↓us_sl9Good, r_sl9Good, hltI, hltJ]
    rw [h1]
    refine ⟨inR_i64 (by omega), by omega, m_call (sl8Call_okc _ _) ?_⟩
    rintro _ w2 hx2 rfl
    have hx12 : Ext w w2 := by first | exact hx.trans hx2 | exact hx.trans (ud hx2)
    simp only [↓vsd, vsn, gW, qd, qv, ev, pick, argE, List.map_cons, List.map_nil, Option.map_some, Option.map_none, zipE, List.cons_append, List.nil_append, ne_eq, eq_self, forall_const, implies_true, if_true, if_false, reduceIte, List.cons.injEq, reduceCtorEq, Nat.reduceEqDiff, List.length_nil, List.length_cons, Nat.reduceAdd, Nat.reduceLT, List.set_cons_zero, List.set_cons_succ, ↓us_sl9Good, r_sl9Good]
    refine ⟨fun hno => ⟨hx12, ?_⟩, fun hyes => ⟨inR_i64 (by omega), UpTo.next hlt ⟨rfl, fun c hm => ?_, hx12⟩⟩⟩
    · rw [decide_eq_false fun hh : IsTch l => hno (hh.2 _ (getD_mem 0 hlt))]
    · rcases mem_take (d := 0) hlt hm with h | rfl
      · exact hc c h
      · exact hyes
  · obtain rfl : k = l.length := by omega
    have hltI : ¬ (l.length : Int) < l.length := by omega
    simp only [↓vsd, vsn, gW, qd, qv, ev, pick, argE, List.map_cons, List.map_nil, Option.map_some, Option.map_none, zipE, List.cons_append, List.nil_append, ne_eq, eq_self, forall_const, implies_true, if_true, if_false, reduceIte, List.cons.injEq, reduceCtorEq, Nat.reduceEqDiff, List.length_nil, List.length_cons, Nat.reduceAdd, Nat.reduceLT, List.set_cons_zero, List.set_cons_succ, ↓us_sl9Good, r_sl9Good, hltI]
    rw [List.take_length] at hc
    refine m_call (sl1In_ok _ _ _ _) ?_
    rintro _ w2 hx2 rfl
    simp only [↓vsd, vsn, gW, qd, qv, ev, pick, argE, List.map_cons, List.map_nil, Option.map_some, Option.map_none, zipE, List.cons_append, List.nil_append, ne_eq, eq_self, forall_const, implies_true, if_true, if_false, reduceIte, List.cons.injEq, reduceCtorEq, Nat.reduceEqDiff, List.length_nil, List.length_cons, Nat.reduceAdd, Nat.reduceLT, List.set_cons_zero, List.set_cons_succ, ↓us_sl9Good, r_sl9Good]
    refine ⟨hx.trans hx2, ?_⟩
    rw [← Bool.decide_and]
    congr 1
    exact propext ⟨fun h => ⟨by omega, hc⟩, fun h => by have := h.1; omega⟩
theorem igoodFor_ok (nm : List UInt8) (st : Int) (v : Value) (cs : List (List UInt8)) (b s t : List UInt8) (hnm : nm.length ≤ 1048576) (hs : ∀ c ∈ cs, c.length ≤ 1048576) (hl : cs.length ≤ 1000000000) (hb : b.length ≤ 1048576 ∧ s.length ≤ 1048576) (ht : t.length ≤ 1000000000) (w : World) (h : Sq fS 1 w v cs) : Fn 184 [mV nm st v, kV b s, S t] w (fun r _ => r = .bool (decide (IsMC nm st cs b s ∧ IsTch t))) := by
  (refine callsV_of mix Try.func184 c_igoodFor ?_; simp only [↓vsd, vsn, gW, qd, qv, ev, pick, argE, List.map_cons, List.map_nil, Option.map_some, Option.map_none, zipE, List.cons_append, List.nil_append, ne_eq, eq_self, forall_const, implies_true, if_true, if_false, reduceIte, List.cons.injEq, reduceCtorEq, Nat.reduceEqDiff, List.length_nil, List.length_cons, Nat.reduceAdd, Nat.reduceLT, List.set_cons_zero, List.set_cons_succ, ↓us_igoodFor, r_igoodFor])
  refine m_al ?_
  rintro b1 w1 hb1 hblk1 hx1 hs1
  have h1 : Blk w1 b1 (fM nm st v) 58 := hblk1
  simp only [↓vsd, vsn, gW, qd, qv, ev, pick, argE, List.map_cons, List.map_nil, Option.map_some, Option.map_none, zipE, List.cons_append, List.nil_append, ne_eq, eq_self, forall_const, implies_true, if_true, if_false, reduceIte, List.cons.injEq, reduceCtorEq, Nat.reduceEqDiff, List.length_nil, List.length_cons, Nat.reduceAdd, Nat.reduceLT, List.set_cons_zero, List.set_cons_succ, ↓us_igoodFor, r_igoodFor, h1.facts, fMg]
  refine m_al ?_
  rintro b2 w2 hb2 hblk2 hx2 hs2
  have h2 : Blk w2 b2 (fQ b s) 47 := hblk2
  have h12 := h1.ext hx2
  have hx12 := hx1.trans hx2
  simp only [↓vsd, vsn, gW, qd, qv, ev, pick, argE, List.map_cons, List.map_nil, Option.map_some, Option.map_none, zipE, List.cons_append, List.nil_append, ne_eq, eq_self, forall_const, implies_true, if_true, if_false, reduceIte, List.cons.injEq, reduceCtorEq, Nat.reduceEqDiff, List.length_nil, List.length_cons, Nat.reduceAdd, Nat.reduceLT, List.set_cons_zero, List.set_cons_succ, ↓us_igoodFor, r_igoodFor, h12.facts, h2.facts, fMg, fQg]
  refine m_call (iGoodCalls_ok nm st v cs b s hnm hs hl hb _ (h.ext hx12)) ?_
  rintro _ w3 hx3 rfl
  simp only [↓vsd, vsn, gW, qd, qv, ev, pick, argE, List.map_cons, List.map_nil, Option.map_some, Option.map_none, zipE, List.cons_append, List.nil_append, ne_eq, eq_self, forall_const, implies_true, if_true, if_false, reduceIte, List.cons.injEq, reduceCtorEq, Nat.reduceEqDiff, List.length_nil, List.length_cons, Nat.reduceAdd, Nat.reduceLT, List.set_cons_zero, List.set_cons_succ, ↓us_igoodFor, r_igoodFor]
  refine ⟨fun hm => m_call (iGoodTouch_okt t ht _) ?_, fun hm => ⟨hx12.trans hx3, by simp [hm]⟩⟩
  rintro _ w4 hx4 rfl
  simp only [↓vsd, vsn, gW, qd, qv, ev, pick, argE, List.map_cons, List.map_nil, Option.map_some, Option.map_none, zipE, List.cons_append, List.nil_append, ne_eq, eq_self, forall_const, implies_true, if_true, if_false, reduceIte, List.cons.injEq, reduceCtorEq, Nat.reduceEqDiff, List.length_nil, List.length_cons, Nat.reduceAdd, Nat.reduceLT, List.set_cons_zero, List.set_cons_succ, ↓us_igoodFor, r_igoodFor]
  exact ⟨(hx12.trans hx3).trans hx4, by simp [hm]⟩
theorem sl9Asked_ok (nm : List UInt8) (st : Int) (v : Value) (cs : List (List UInt8)) (b s t : List UInt8) (hnm : nm.length ≤ 1048576) (hs : ∀ c ∈ cs, c.length ≤ 1048576) (hl : cs.length ≤ 1000000000) (hb : b.length ≤ 1048576 ∧ s.length ≤ 1048576) (ht : t.length ≤ 1000000000) (w : World) (h : Sq fS 1 w v cs) : Fn 178 [mV nm st v, kV b s, S t] w (fun r _ => r = .bool (decide (IsMC nm st cs b s ∧ IsTch t))) := by
  (refine callsV_of mix Try.func178 c_sl9Asked ?_; simp only [↓vsd, vsn, gW, qd, qv, ev, pick, argE, List.map_cons, List.map_nil, Option.map_some, Option.map_none, zipE, List.cons_append, List.nil_append, ne_eq, eq_self, forall_const, implies_true, if_true, if_false, reduceIte, List.cons.injEq, reduceCtorEq, Nat.reduceEqDiff, List.length_nil, List.length_cons, Nat.reduceAdd, Nat.reduceLT, List.set_cons_zero, List.set_cons_succ, ↓us_sl9Asked, r_sl9Asked])
  refine m_al ?_
  rintro b1 w1 hb1 hblk1 hx1 hs1
  have h1 : Blk w1 b1 (fM nm st v) 58 := hblk1
  simp only [↓vsd, vsn, gW, qd, qv, ev, pick, argE, List.map_cons, List.map_nil, Option.map_some, Option.map_none, zipE, List.cons_append, List.nil_append, ne_eq, eq_self, forall_const, implies_true, if_true, if_false, reduceIte, List.cons.injEq, reduceCtorEq, Nat.reduceEqDiff, List.length_nil, List.length_cons, Nat.reduceAdd, Nat.reduceLT, List.set_cons_zero, List.set_cons_succ, ↓us_sl9Asked, r_sl9Asked, h1.facts, fMg]
  refine m_al ?_
  rintro b2 w2 hb2 hblk2 hx2 hs2
  have h2 : Blk w2 b2 (fQ b s) 47 := hblk2
  have h12 := h1.ext hx2
  have hx12 := hx1.trans hx2
  simp only [↓vsd, vsn, gW, qd, qv, ev, pick, argE, List.map_cons, List.map_nil, Option.map_some, Option.map_none, zipE, List.cons_append, List.nil_append, ne_eq, eq_self, forall_const, implies_true, if_true, if_false, reduceIte, List.cons.injEq, reduceCtorEq, Nat.reduceEqDiff, List.length_nil, List.length_cons, Nat.reduceAdd, Nat.reduceLT, List.set_cons_zero, List.set_cons_succ, ↓us_sl9Asked, r_sl9Asked, h12.facts, h2.facts, fMg, fQg]
  refine m_call (sl8Good_ok nm st v cs b s hnm hs hl hb _ (h.ext hx12)) ?_
  rintro _ w3 hx3 rfl
  simp only [↓vsd, vsn, gW, qd, qv, ev, pick, argE, List.map_cons, List.map_nil, Option.map_some, Option.map_none, zipE, List.cons_append, List.nil_append, ne_eq, eq_self, forall_const, implies_true, if_true, if_false, reduceIte, List.cons.injEq, reduceCtorEq, Nat.reduceEqDiff, List.length_nil, List.length_cons, Nat.reduceAdd, Nat.reduceLT, List.set_cons_zero, List.set_cons_succ, ↓us_sl9Asked, r_sl9Asked]
  refine ⟨fun hm => m_call (sl9Good_okt t ht _) ?_, fun hm => ⟨hx12.trans hx3, by simp [hm]⟩⟩
  rintro _ w4 hx4 rfl
  simp only [↓vsd, vsn, gW, qd, qv, ev, pick, argE, List.map_cons, List.map_nil, Option.map_some, Option.map_none, zipE, List.cons_append, List.nil_append, ne_eq, eq_self, forall_const, implies_true, if_true, if_false, reduceIte, List.cons.injEq, reduceCtorEq, Nat.reduceEqDiff, List.length_nil, List.length_cons, Nat.reduceAdd, Nat.reduceLT, List.set_cons_zero, List.set_cons_succ, ↓us_sl9Asked, r_sl9Asked]
  exact ⟨(hx12.trans hx3).trans hx4, by simp [hm]⟩
/-- A coursing order moved by a head. -/
def stepO (o h : List UInt8) : List UInt8 := (movesL h).map fun p => o.getD p 0
def ordO (st : Nat) (cs : List (List UInt8)) (b s t : List UInt8) : Nat → List UInt8
  | 0 => wholeL st
  | k + 1 => stepO (ordO st cs b s t k) (headC st cs b s [t.getD k 0])
def okO (st : Nat) (cs : List (List UInt8)) (b s t : List UInt8) (k : Nat) : Prop := ∀ i < k, (headC st cs b s [t.getD i 0]).getD 0 0 = 49
instance (st : Nat) (cs : List (List UInt8)) (b s t : List UInt8) (k : Nat) : Decidable (okO st cs b s t k) := by unfold okO; infer_instance
def lineL (st : Nat) (cs : List (List UInt8)) (b s t : List UInt8) (k : Nat) : List (List UInt8) := (List.range k).map (ordO st cs b s t)
theorem ordO_len {nm : List UInt8} {st : Nat} {cs : List (List UInt8)} {b s : List UInt8} (h : IsMC nm st cs b s) (t : List UInt8) : ∀ k, (ordO st cs b s t k).length = st - 1
  | 0 => by have := h.1.2.1; exact whole_len st (by omega)
  | k + 1 => by
    have hr := headC_row h [t.getD k 0]
    have h8 := h.1.2.1
    rw [ordO, stepO, List.length_map, movesL, List.length_map, course_len _ (by omega), hr.2]
/-- Does the coursing line exist? -/
def LineOk (nm : List UInt8) (st : Int) (cs : List (List UInt8)) (b s t : List UInt8) : Prop := (IsLarge nm st cs ∧ IsMC nm st cs b s ∧ IsTch t) ∧ okO st.toNat cs b s t t.length
instance (nm : List UInt8) (st : Int) (cs : List (List UInt8)) (b s t : List UInt8) : Decidable (LineOk nm st cs b s t) := by unfold LineOk; infer_instance
def lineR (nm : List UInt8) (st : Int) (cs : List (List UInt8)) (b s t : List UInt8) : List (List UInt8) := if LineOk nm st cs b s t then lineL st.toNat cs b s t (t.length + 1) else []
theorem moves_get {h : List UInt8} (hr : IsRow h) (h1 : h.getD 0 0 = 49) {j : Nat} (hj : j < (courseL h).length) : ∃ p, (movesI h).getD j 0 = ((p : Nat) : Int) ∧ p < h.length - 1 ∧ (movesL h).getD j 0 = p := by
  obtain ⟨v, hv2, hvl, hg⟩ := course_get hr h1 j hj
  have h8 := hr.1
  have hp := whole_pos h.length (by omega) v (by omega) hv2 hvl
  rw [whole_len _ (by omega)] at hp
  refine ⟨posC h.length ((courseL h).getD j 0), movesI_get h j hj, by rw [hg]; exact hp, ?_⟩
  rw [movesL, getD_map _ 0 _ _ _ hj]
theorem iConductLine_ok (nm : List UInt8) (st : Int) (v : Value) (cs : List (List UInt8)) (b s t : List UInt8) (hnm : nm.length ≤ 1048576) (hs : ∀ c ∈ cs, c.length ≤ 1048576) (hl : cs.length ≤ 1000000000) (hb : b.length ≤ 1048576 ∧ s.length ≤ 1048576) (ht : t.length ≤ 1000000000) (w : World) (h : Sq fS 1 w v cs) :
    Fn 44 [mV nm st v, kV b s, S t] w (fun r w' => ∃ x, r = .tuple ⟨[x, .bool (decide (LineOk nm st cs b s t))]⟩ ∧ Own fS 1 9 w.heap.size w' x (lineR nm st cs b s t)) := by
  (refine callsV_of mix Try.func44 c_iConductLine ?_; simp only [↓vsd, vsn, gW, qd, qv, ev, pick, argE, List.map_cons, List.map_nil, Option.map_some, Option.map_none, zipE, List.cons_append, List.nil_append, ne_eq, eq_self, forall_const, implies_true, if_true, if_false, reduceIte, List.cons.injEq, reduceCtorEq, Nat.reduceEqDiff, List.length_nil, List.length_cons, Nat.reduceAdd, Nat.reduceLT, List.set_cons_zero, List.set_cons_succ, ↓us_iConductLine, r_iConductLine])
  refine m_al ?_
  rintro b1 w1 hb1 hblk1 hx1 hs1
  have h1 : Blk w1 b1 (fM nm st v) 58 := hblk1
  simp only [↓vsd, vsn, gW, qd, qv, ev, pick, argE, List.map_cons, List.map_nil, Option.map_some, Option.map_none, zipE, List.cons_append, List.nil_append, ne_eq, eq_self, forall_const, implies_true, if_true, if_false, reduceIte, List.cons.injEq, reduceCtorEq, Nat.reduceEqDiff, List.length_nil, List.length_cons, Nat.reduceAdd, Nat.reduceLT, List.set_cons_zero, List.set_cons_succ, ↓us_iConductLine, r_iConductLine, h1.facts, fMg]
  refine m_al ?_
  rintro b2 w2 hb2 hblk2 hx2 hs2
  have h2 : Blk w2 b2 (fQ b s) 47 := hblk2
  have h12 := h1.ext hx2
  have hx12 := hx1.trans hx2
  simp only [↓vsd, vsn, gW, qd, qv, ev, pick, argE, List.map_cons, List.map_nil, Option.map_some, Option.map_none, zipE, List.cons_append, List.nil_append, ne_eq, eq_self, forall_const, implies_true, if_true, if_false, reduceIte, List.cons.injEq, reduceCtorEq, Nat.reduceEqDiff, List.length_nil, List.length_cons, Nat.reduceAdd, Nat.reduceLT, List.set_cons_zero, List.set_cons_succ, ↓us_iConductLine, r_iConductLine, h12.facts, h2.facts, fMg, fQg]
  have hno : ¬ LineOk nm st cs b s t → ∀ w', ∃ x, Value.tuple ⟨[.slice none 0 0, .bool false]⟩ = .tuple ⟨[x, .bool (decide (LineOk nm st cs b s t))]⟩ ∧ Own fS 1 9 w.heap.size w' x (lineR nm st cs b s t) := fun hn w' =>
    ⟨_, by rw [decide_eq_false hn], by rw [lineR, if_neg hn]; exact Own.nil fS_len⟩
  refine m_call (iisLarge_ok nm st v cs hnm hs hl _ (h.ext hx12)) ?_
  rintro _ w3 hx3 rfl
  have hx13 := hx12.trans hx3
  have h13 := h12.ext hx3
  have h23 := h2.ext hx3
  by_cases hL : IsLarge nm st cs
  · simp only [↓vsd, vsn, gW, qd, qv, ev, pick, argE, List.map_cons, List.map_nil, Option.map_some, Option.map_none, zipE, List.cons_append, List.nil_append, ne_eq, eq_self, forall_const, implies_true, if_true, if_false, reduceIte, List.cons.injEq, reduceCtorEq, Nat.reduceEqDiff, List.length_nil, List.length_cons, Nat.reduceAdd, Nat.reduceLT, List.set_cons_zero, List.set_cons_succ, ↓us_iConductLine, r_iConductLine, hL, h13.facts, h23.facts, fMg, fQg]
    refine m_call (igoodFor_ok nm st v cs b s t hnm hs hl hb ht _ (h.ext hx13)) ?_
    rintro _ w4 hx4 rfl
    have hx14 := hx13.trans hx4
    have h14 := h13.ext hx4
    have h24 := h23.ext hx4
    by_cases hM : IsMC nm st cs b s ∧ IsTch t
    · obtain ⟨n, rfl⟩ : ∃ n : Nat, st = n := ⟨st.toNat, by have := hM.1.1.2.1; omega⟩
      have h8 := hM.1.1.2.1
      have hn4 := hL.2
      have ht60 := hM.2.1
      simp only [↓vsd, vsn, gW, qd, qv, ev, pick, argE, List.map_cons, List.map_nil, Option.map_some, Option.map_none, zipE, List.cons_append, List.nil_append, ne_eq, eq_self, forall_const, implies_true, if_true, if_false, reduceIte, List.cons.injEq, reduceCtorEq, Nat.reduceEqDiff, List.length_nil, List.length_cons, Nat.reduceAdd, Nat.reduceLT, List.set_cons_zero, List.set_cons_succ, ↓us_iConductLine, r_iConductLine, hM, h14.facts, h24.facts, fMg, fQg]
      refine m_call (irounds_ok n (by omega) _) ?_
      rintro _ w5 hx5 rfl
      simp only [↓vsd, vsn, gW, qd, qv, ev, pick, argE, List.map_cons, List.map_nil, Option.map_some, Option.map_none, zipE, List.cons_append, List.nil_append, ne_eq, eq_self, forall_const, implies_true, if_true, if_false, reduceIte, List.cons.injEq, reduceCtorEq, Nat.reduceEqDiff, List.length_nil, List.length_cons, Nat.reduceAdd, Nat.reduceLT, List.set_cons_zero, List.set_cons_succ, ↓us_iConductLine, r_iConductLine]
      refine m_call (icourseOf_ok (roundsL n) (by rw [roundsL_len]; omega) (by rw [roundsL_len]; omega) _) ?_
      rintro _ w6 hx6 rfl
      have hx16 := (hx14.trans hx5).trans hx6
      simp only [↓vsd, vsn, gW, qd, qv, ev, pick, argE, List.map_cons, List.map_nil, Option.map_some, Option.map_none, zipE, List.cons_append, List.nil_append, ne_eq, eq_self, forall_const, implies_true, if_true, if_false, reduceIte, List.cons.injEq, reduceCtorEq, Nat.reduceEqDiff, List.length_nil, List.length_cons, Nat.reduceAdd, Nat.reduceLT, List.set_cons_zero, List.set_cons_succ, ↓us_iConductLine, r_iConductLine]
      refine m_bsl (one_el rfl) ?_
      rintro b7 w7 hb7 hblk7 hx7 hs7
      simp only [↓vsd, vsn, gW, qd, qv, ev, pick, argE, List.map_cons, List.map_nil, Option.map_some, Option.map_none, zipE, List.cons_append, List.nil_append, ne_eq, eq_self, forall_const, implies_true, if_true, if_false, reduceIte, List.cons.injEq, reduceCtorEq, Nat.reduceEqDiff, List.length_nil, List.length_cons, Nat.reduceAdd, Nat.reduceLT, List.set_cons_zero, List.set_cons_succ, ↓us_iConductLine, r_iConductLine]
      have hx46 := hx5.trans hx6
      have h16 := h14.ext hx46
      have h26 := h24.ext hx46
      refine m_upto t.length (fun i vs w' => ∃ x, vs = [S (ordO n cs b s t i), x, .int .i64 i] ∧ okO n cs b s t i ∧ Own fS 1 9 w6.heap.size w' x (lineL n cs b s t (i + 1)) ∧ Ext w6 w') ⟨_, rfl, fun j hj => absurd hj (Nat.not_lt_zero j), (Own.one fS_len hblk7 rfl (by omega)).to rfl, hx7⟩ ?_
      rintro i vs w8 hi ⟨x, rfl, hok, ho8, hx8⟩
      have h18 := h16.ext hx8
      have h28 := h26.ext hx8
      have hx18 := hx16.trans hx8
      have hbl := ordO_len hM.1 t i
      by_cases hlt : i < t.length
      · have hltI : (i : Int) < t.length := by omega
        have hltJ : ¬ (t.length : Int) ≤ i := by omega
        have hs1 := sub_one t i hlt
        simp only [↓vsd, vsn, gW, qd, qv, ev, pick, argE, List.map_cons, List.map_nil, Option.map_some, Option.map_none, zipE, List.cons_append, List.nil_append, ne_eq, eq_self, forall_const, implies_true, if_true, if_false, reduceIte, List.cons.injEq, reduceCtorEq, Nat.reduceEqDiff, List.length_nil, List.length_cons, Nat.reduceAdd, Nat.reduceLT, List.set_cons_zero, List.set_cons_succ, ↓us_iConductLine, r_iConductLine, h18.facts, h28.facts, fMg, fQg, hltI, hltJ]
        rw [hs1]
        refine ⟨inR_i64 (by omega), by omega, m_call (icallMoves_ok nm n v cs b s [t.getD i 0] hM.1 (by omega) _ (h.ext (dr hx18))) ?_⟩
        rintro _ w9 hx9 ⟨y, rfl, hoy⟩
        have hx19 := hx18.trans (ud hx9)
        by_cases hd : (headC n cs b s [t.getD i 0]).getD 0 0 = 49
        · obtain ⟨hr, hrl⟩ := headC_row hM.1 [t.getD i 0]
          have hst : ordO n cs b s t (i + 1) = stepO (ordO n cs b s t i) (headC n cs b s [t.getD i 0]) := rfl
          have hok' : okO n cs b s t (i + 1) := fun j hj => by
            rcases Nat.lt_succ_iff_lt_or_eq.1 hj with h | rfl
            · exact hok j h
            · exact hd
          rw [if_pos hd] at hoy
          simp only [↓vsd, vsn, gW, qd, qv, ev, pick, argE, List.map_cons, List.map_nil, Option.map_some, Option.map_none, zipE, List.cons_append, List.nil_append, ne_eq, eq_self, forall_const, implies_true, if_true, if_false, reduceIte, List.cons.injEq, reduceCtorEq, Nat.reduceEqDiff, List.length_nil, List.length_cons, Nat.reduceAdd, Nat.reduceLT, List.set_cons_zero, List.set_cons_succ, ↓us_iConductLine, r_iConductLine, hd, hoy.sq.facts]
          generalize hh : headC n cs b s [t.getD i 0] = h' at *
          have hml := movesI_len h' (by omega)
          have hcl := course_len h' (by omega)
          generalize ho : ordO n cs b s t i = o at *
          refine m_upto (movesI h').length (fun j vs w' => vs = [S (((movesL h').take j).map fun p => o.getD p 0), .int .i64 j] ∧ Ext w9 w') ⟨rfl, Ext.refl _⟩ ?_
          rintro j vs wa hj ⟨rfl, hxa⟩
          have hqa := hoy.sq.ext hxa
          by_cases hltj : j < (movesI h').length
          · have hltjI : (j : Int) < (movesI h').length := by omega
            have hltjJ : ¬ ((movesI h').length : Int) ≤ j := by omega
            obtain ⟨p, hp, hpl, hpm⟩ := moves_get hr hd (j := j) (by omega)
            have hso := sub_one o p (by omega)
            have hts := map_take_suc (fun p => o.getD p 0) 0 (movesL h') j (by rw [movesL, List.length_map]; omega)
            rw [hpm] at hts
            simp only [↓vsd, vsn, gW, qd, qv, ev, pick, argE, List.map_cons, List.map_nil, Option.map_some, Option.map_none, zipE, List.cons_append, List.nil_append, ne_eq, eq_self, forall_const, implies_true, if_true, if_false, reduceIte, List.cons.injEq, reduceCtorEq, Nat.reduceEqDiff, List.length_nil, List.length_cons, Nat.reduceAdd, Nat.reduceLT, List.set_cons_zero, List.set_cons_succ, ↓us_iConductLine, r_iConductLine, hqa.facts, hltjI, hltjJ, hqa.at1 0 hltj, hp]
            rw [hso]
            have hol : (((movesL h').take j).map fun p => o.getD p 0).length ≤ j := by rw [List.length_map, List.length_take]; omega
            refine ⟨by omega, inR_i64 (by omega), ⟨by omega, by omega, by omega⟩, by simp only [List.length_cons, List.length_nil]; omega, inR_i64 (by omega), UpTo.next hltj ⟨by rw [hts]; rfl, hxa⟩⟩
          · obtain rfl : j = (movesI h').length := by omega
            have hltjI : ¬ ((movesI h').length : Int) < (movesI h').length := by omega
            simp only [↓vsd, vsn, gW, qd, qv, ev, pick, argE, List.map_cons, List.map_nil, Option.map_some, Option.map_none, zipE, List.cons_append, List.nil_append, ne_eq, eq_self, forall_const, implies_true, if_true, if_false, reduceIte, List.cons.injEq, reduceCtorEq, Nat.reduceEqDiff, List.length_nil, List.length_cons, Nat.reduceAdd, Nat.reduceLT, List.set_cons_zero, List.set_cons_succ, ↓us_iConductLine, r_iConductLine, hltjI]
            have hte : ((movesL h').take (movesI h').length).map (fun p => o.getD p 0) = stepO o h' := by
              rw [List.take_of_length_le (by rw [movesI, List.length_map]; exact Nat.le_refl _)]; rfl
            rw [hte, ← hst]
            have hst2 : (ordO n cs b s t (i + 1)).length = n - 1 := ordO_len hM.1 t (i + 1)
            refine m_bsl (one_el rfl) ?_
            rintro bb wb hbb hblkb hxb hsb
            simp only [↓vsd, vsn, gW, qd, qv, ev, pick, argE, List.map_cons, List.map_nil, Option.map_some, Option.map_none, zipE, List.cons_append, List.nil_append, ne_eq, eq_self, forall_const, implies_true, if_true, if_false, reduceIte, List.cons.injEq, reduceCtorEq, Nat.reduceEqDiff, List.length_nil, List.length_cons, Nat.reduceAdd, Nat.reduceLT, List.set_cons_zero, List.set_cons_succ, ↓us_iConductLine, r_iConductLine]
            have hx1b := (hx19.trans hxa).trans hxb
            have hll : (lineL n cs b s t (i + 1)).length = i + 1 := by simp [lineL]
            have ho9 := ((ho8.ext (ud hx9)).ext hxa).ext hxb
            refine m_app ho9 (Sq.one fS_len hblkb rfl) fS_one (by decide) (by rw [hll]; simp; omega) (by decide) (((hx8.trans (ud hx9)).trans hxa).trans hxb).size ?_
            rintro x5 w5 ho5 hg5
            simp only [↓vsd, vsn, gW, qd, qv, ev, pick, argE, List.map_cons, List.map_nil, Option.map_some, Option.map_none, zipE, List.cons_append, List.nil_append, ne_eq, eq_self, forall_const, implies_true, if_true, if_false, reduceIte, List.cons.injEq, reduceCtorEq, Nat.reduceEqDiff, List.length_nil, List.length_cons, Nat.reduceAdd, Nat.reduceLT, List.set_cons_zero, List.set_cons_succ, ↓us_iConductLine, r_iConductLine]
            have hx6b := ((hx8.trans (ud hx9)).trans hxa).trans hxb
            have hx6w : Ext w6 w5 := ho9.grown hx6b (Nat.le_refl _) hg5
            exact ⟨inR_i64 (by omega), UpTo.next hlt ⟨x5, rfl, hok', ho5.to (by simp [lineL, List.range_succ]), hx6w⟩⟩
        · have hnk : ¬ LineOk nm n cs b s t := fun hh => hd (hh.2 i hlt)
          simp only [↓vsd, vsn, gW, qd, qv, ev, pick, argE, List.map_cons, List.map_nil, Option.map_some, Option.map_none, zipE, List.cons_append, List.nil_append, ne_eq, eq_self, forall_const, implies_true, if_true, if_false, reduceIte, List.cons.injEq, reduceCtorEq, Nat.reduceEqDiff, List.length_nil, List.length_cons, Nat.reduceAdd, Nat.reduceLT, List.set_cons_zero, List.set_cons_succ, ↓us_iConductLine, r_iConductLine, hd]
          exact ⟨hx19, hno hnk _⟩
      · obtain rfl : i = t.length := by omega
        have hltI : ¬ (t.length : Int) < t.length := by omega
        have hyes : LineOk nm n cs b s t := ⟨⟨hL, hM.1, hM.2⟩, hok⟩
        simp only [↓vsd, vsn, gW, qd, qv, ev, pick, argE, List.map_cons, List.map_nil, Option.map_some, Option.map_none, zipE, List.cons_append, List.nil_append, ne_eq, eq_self, forall_const, implies_true, if_true, if_false, reduceIte, List.cons.injEq, reduceCtorEq, Nat.reduceEqDiff, List.length_nil, List.length_cons, Nat.reduceAdd, Nat.reduceLT, List.set_cons_zero, List.set_cons_succ, ↓us_iConductLine, r_iConductLine, hltI]
        rw [decide_eq_true hyes, lineR, if_pos hyes]
        exact ⟨hx18, _, rfl, ho8.mono hx16.size⟩
    · simp only [↓vsd, vsn, gW, qd, qv, ev, pick, argE, List.map_cons, List.map_nil, Option.map_some, Option.map_none, zipE, List.cons_append, List.nil_append, ne_eq, eq_self, forall_const, implies_true, if_true, if_false, reduceIte, List.cons.injEq, reduceCtorEq, Nat.reduceEqDiff, List.length_nil, List.length_cons, Nat.reduceAdd, Nat.reduceLT, List.set_cons_zero, List.set_cons_succ, ↓us_iConductLine, r_iConductLine, hM]
      exact ⟨hx14, hno (fun hh => hM ⟨hh.1.2.1, hh.1.2.2⟩) _⟩
  · simp only [↓vsd, vsn, gW, qd, qv, ev, pick, argE, List.map_cons, List.map_nil, Option.map_some, Option.map_none, zipE, List.cons_append, List.nil_append, ne_eq, eq_self, forall_const, implies_true, if_true, if_false, reduceIte, List.cons.injEq, reduceCtorEq, Nat.reduceEqDiff, List.length_nil, List.length_cons, Nat.reduceAdd, Nat.reduceLT, List.set_cons_zero, List.set_cons_succ, ↓us_iConductLine, r_iConductLine, hL]
    exact ⟨hx13, hno (fun hh => hL hh.1.1) _⟩
theorem sConductLine_ok (nm : List UInt8) (st : Int) (v : Value) (cs : List (List UInt8)) (b s t : List UInt8) (hnm : nm.length ≤ 1048576) (hs : ∀ c ∈ cs, c.length ≤ 1048576) (hl : cs.length ≤ 1000000000) (hb : b.length ≤ 1048576 ∧ s.length ≤ 1048576) (ht : t.length ≤ 1000000000) (w : World) (h : Sq fS 1 w v cs) :
    Fn 42 [mV nm st v, kV b s, S t] w (fun r w' => ∃ x, r = .tuple ⟨[x, .bool (decide (LineOk nm st cs b s t))]⟩ ∧ Own fS 1 9 w.heap.size w' x (lineR nm st cs b s t)) := by
  (refine callsV_of mix Try.func42 c_sConductLine ?_; simp only [↓vsd, vsn, gW, qd, qv, ev, pick, argE, List.map_cons, List.map_nil, Option.map_some, Option.map_none, zipE, List.cons_append, List.nil_append, ne_eq, eq_self, forall_const, implies_true, if_true, if_false, reduceIte, List.cons.injEq, reduceCtorEq, Nat.reduceEqDiff, List.length_nil, List.length_cons, Nat.reduceAdd, Nat.reduceLT, List.set_cons_zero, List.set_cons_succ, ↓us_sConductLine, r_sConductLine])
  refine m_al ?_
  rintro b1 w1 hb1 hblk1 hx1 hs1
  have h1 : Blk w1 b1 (fM nm st v) 58 := hblk1
  simp only [↓vsd, vsn, gW, qd, qv, ev, pick, argE, List.map_cons, List.map_nil, Option.map_some, Option.map_none, zipE, List.cons_append, List.nil_append, ne_eq, eq_self, forall_const, implies_true, if_true, if_false, reduceIte, List.cons.injEq, reduceCtorEq, Nat.reduceEqDiff, List.length_nil, List.length_cons, Nat.reduceAdd, Nat.reduceLT, List.set_cons_zero, List.set_cons_succ, ↓us_sConductLine, r_sConductLine, h1.facts, fMg]
  refine m_al ?_
  rintro b2 w2 hb2 hblk2 hx2 hs2
  have h2 : Blk w2 b2 (fQ b s) 47 := hblk2
  have h12 := h1.ext hx2
  have hx12 := hx1.trans hx2
  simp only [↓vsd, vsn, gW, qd, qv, ev, pick, argE, List.map_cons, List.map_nil, Option.map_some, Option.map_none, zipE, List.cons_append, List.nil_append, ne_eq, eq_self, forall_const, implies_true, if_true, if_false, reduceIte, List.cons.injEq, reduceCtorEq, Nat.reduceEqDiff, List.length_nil, List.length_cons, Nat.reduceAdd, Nat.reduceLT, List.set_cons_zero, List.set_cons_succ, ↓us_sConductLine, r_sConductLine, h12.facts, h2.facts, fMg, fQg]
  have hno : ¬ LineOk nm st cs b s t → ∀ w', ∃ x, Value.tuple ⟨[.slice none 0 0, .bool false]⟩ = .tuple ⟨[x, .bool (decide (LineOk nm st cs b s t))]⟩ ∧ Own fS 1 9 w.heap.size w' x (lineR nm st cs b s t) := fun hn w' =>
    ⟨_, by rw [decide_eq_false hn], by rw [lineR, if_neg hn]; exact Own.nil fS_len⟩
  refine m_call (sl15Good_ok nm st v cs hnm hs hl _ (h.ext hx12)) ?_
  rintro _ w3 hx3 rfl
  have hx13 := hx12.trans hx3
  have h13 := h12.ext hx3
  have h23 := h2.ext hx3
  by_cases hL : IsLarge nm st cs
  · simp only [↓vsd, vsn, gW, qd, qv, ev, pick, argE, List.map_cons, List.map_nil, Option.map_some, Option.map_none, zipE, List.cons_append, List.nil_append, ne_eq, eq_self, forall_const, implies_true, if_true, if_false, reduceIte, List.cons.injEq, reduceCtorEq, Nat.reduceEqDiff, List.length_nil, List.length_cons, Nat.reduceAdd, Nat.reduceLT, List.set_cons_zero, List.set_cons_succ, ↓us_sConductLine, r_sConductLine, hL, h13.facts, h23.facts, fMg, fQg]
    refine m_call (sl9Asked_ok nm st v cs b s t hnm hs hl hb ht _ (h.ext hx13)) ?_
    rintro _ w4 hx4 rfl
    have hx14 := hx13.trans hx4
    have h14 := h13.ext hx4
    have h24 := h23.ext hx4
    by_cases hM : IsMC nm st cs b s ∧ IsTch t
    · obtain ⟨n, rfl⟩ : ∃ n : Nat, st = n := ⟨st.toNat, by have := hM.1.1.2.1; omega⟩
      have h8 := hM.1.1.2.1
      have hn4 := hL.2
      have ht60 := hM.2.1
      simp only [↓vsd, vsn, gW, qd, qv, ev, pick, argE, List.map_cons, List.map_nil, Option.map_some, Option.map_none, zipE, List.cons_append, List.nil_append, ne_eq, eq_self, forall_const, implies_true, if_true, if_false, reduceIte, List.cons.injEq, reduceCtorEq, Nat.reduceEqDiff, List.length_nil, List.length_cons, Nat.reduceAdd, Nat.reduceLT, List.set_cons_zero, List.set_cons_succ, ↓us_sConductLine, r_sConductLine, hM, h14.facts, h24.facts, fMg, fQg]
      refine m_call (sl1Rounds_ok n (by omega) _) ?_
      rintro _ w5 hx5 rfl
      simp only [↓vsd, vsn, gW, qd, qv, ev, pick, argE, List.map_cons, List.map_nil, Option.map_some, Option.map_none, zipE, List.cons_append, List.nil_append, ne_eq, eq_self, forall_const, implies_true, if_true, if_false, reduceIte, List.cons.injEq, reduceCtorEq, Nat.reduceEqDiff, List.length_nil, List.length_cons, Nat.reduceAdd, Nat.reduceLT, List.set_cons_zero, List.set_cons_succ, ↓us_sConductLine, r_sConductLine]
      refine m_call (sl15Course_ok (roundsL n) (by rw [roundsL_len]; omega) (by rw [roundsL_len]; omega) _) ?_
      rintro _ w6 hx6 rfl
      have hx16 := (hx14.trans hx5).trans hx6
      simp only [↓vsd, vsn, gW, qd, qv, ev, pick, argE, List.map_cons, List.map_nil, Option.map_some, Option.map_none, zipE, List.cons_append, List.nil_append, ne_eq, eq_self, forall_const, implies_true, if_true, if_false, reduceIte, List.cons.injEq, reduceCtorEq, Nat.reduceEqDiff, List.length_nil, List.length_cons, Nat.reduceAdd, Nat.reduceLT, List.set_cons_zero, List.set_cons_succ, ↓us_sConductLine, r_sConductLine]
      refine m_bsl (one_el rfl) ?_
      rintro b7 w7 hb7 hblk7 hx7 hs7
      simp only [↓vsd, vsn, gW, qd, qv, ev, pick, argE, List.map_cons, List.map_nil, Option.map_some, Option.map_none, zipE, List.cons_append, List.nil_append, ne_eq, eq_self, forall_const, implies_true, if_true, if_false, reduceIte, List.cons.injEq, reduceCtorEq, Nat.reduceEqDiff, List.length_nil, List.length_cons, Nat.reduceAdd, Nat.reduceLT, List.set_cons_zero, List.set_cons_succ, ↓us_sConductLine, r_sConductLine]
      refine m_rng ?_
      rintro b8 w8 hb8 hit8 hx8 hs8
      simp only [↓vsd, vsn, gW, qd, qv, ev, pick, argE, List.map_cons, List.map_nil, Option.map_some, Option.map_none, zipE, List.cons_append, List.nil_append, ne_eq, eq_self, forall_const, implies_true, if_true, if_false, reduceIte, List.cons.injEq, reduceCtorEq, Nat.reduceEqDiff, List.length_nil, List.length_cons, Nat.reduceAdd, Nat.reduceLT, List.set_cons_zero, List.set_cons_succ, ↓us_sConductLine, r_sConductLine]
      have hx46 := hx5.trans hx6
      have h16 := h14.ext hx46
      have h26 := h24.ext hx46
      have h128 := tch_low hM.2
      have ho7 := Own.one (B := w6.heap.size) fS_len hblk7 rfl (by omega)
      refine m_upto t.length (fun i vs w' => ∃ x, vs = [S (ordO n cs b s t i), x] ∧ okO n cs b s t i ∧ Own fS 1 9 w6.heap.size w' x (lineL n cs b s t (i + 1)) ∧ Ext w6 w' ∧ Itr w' b8 t i ∧ Away x b8) ⟨_, rfl, fun j hj => absurd hj (Nat.not_lt_zero j), (ho7.ext hx8).to rfl, hx7.trans hx8, hit8, ho7.away (by omega)⟩ ?_
      rintro i vs w9 hi ⟨x, rfl, hok, ho9, hx9, hit9, haw9⟩
      have hx19 := hx16.trans hx9
      have hbl := ordO_len hM.1 t i
      simp only [↓vsd, vsn, gW, qd, qv, ev, pick, argE, List.map_cons, List.map_nil, Option.map_some, Option.map_none, zipE, List.cons_append, List.nil_append, ne_eq, eq_self, forall_const, implies_true, if_true, if_false, reduceIte, List.cons.injEq, reduceCtorEq, Nat.reduceEqDiff, List.length_nil, List.length_cons, Nat.reduceAdd, Nat.reduceLT, List.set_cons_zero, List.set_cons_succ, ↓us_sConductLine, r_sConductLine]
      refine m_nxt hit9 h128 ?_ ?_
      · intro hlt wa hita hua
        have hxa : Ext w6 wa := hua.below hx9 (by have := hx7.size; omega)
        have hoa := ho9.upd hua haw9
        have h1a := h16.ext hxa
        have h2a := h26.ext hxa
        have hx1a := hx16.trans hxa
        have hs1 := sub_one t i hlt
        simp only [↓vsd, vsn, gW, qd, qv, ev, pick, argE, List.map_cons, List.map_nil, Option.map_some, Option.map_none, zipE, List.cons_append, List.nil_append, ne_eq, eq_self, forall_const, implies_true, if_true, if_false, reduceIte, List.cons.injEq, reduceCtorEq, Nat.reduceEqDiff, List.length_nil, List.length_cons, Nat.reduceAdd, Nat.reduceLT, List.set_cons_zero, List.set_cons_succ, ↓us_sConductLine, r_sConductLine, h1a.facts, h2a.facts, fMg, fQg]
        rw [hs1]
        refine ⟨inR_i64 (by omega), by omega, m_call (sCallMoves_ok nm n v cs b s [t.getD i 0] hnm hs hl hb _ (h.ext (dr hx1a))) ?_⟩
        rintro _ wb hxb ⟨y, rfl, hoy⟩
        have hxb := ud hxb
        have hmv : moveV nm n cs b s [t.getD i 0] = ((headC n cs b s [t.getD i 0]).getD 0 0 = 49) := propext ⟨fun h => h.2, fun h => ⟨⟨hL, hM.1, hM.2.2 _ (getD_mem 0 hlt)⟩, h⟩⟩
        simp only [hmv, Int.toNat_natCast] at hoy
        by_cases hd : (headC n cs b s [t.getD i 0]).getD 0 0 = 49
        · obtain ⟨hr, hrl⟩ := headC_row hM.1 [t.getD i 0]
          have hst : ordO n cs b s t (i + 1) = stepO (ordO n cs b s t i) (headC n cs b s [t.getD i 0]) := rfl
          have hok' : okO n cs b s t (i + 1) := fun j hj => by
            rcases Nat.lt_succ_iff_lt_or_eq.1 hj with h | rfl
            · exact hok j h
            · exact hd
          rw [if_pos hd] at hoy
          simp only [↓vsd, vsn, gW, qd, qv, ev, pick, argE, List.map_cons, List.map_nil, Option.map_some, Option.map_none, zipE, List.cons_append, List.nil_append, ne_eq, eq_self, forall_const, implies_true, if_true, if_false, reduceIte, List.cons.injEq, reduceCtorEq, Nat.reduceEqDiff, List.length_nil, List.length_cons, Nat.reduceAdd, Nat.reduceLT, List.set_cons_zero, List.set_cons_succ, ↓us_sConductLine, r_sConductLine, hmv, hd, hoy.sq.facts]
          generalize hh : headC n cs b s [t.getD i 0] = h' at *
          have hml := movesI_len h' (by omega)
          have hcl := course_len h' (by omega)
          generalize ho : ordO n cs b s t i = o at *
          refine m_upto (movesI h').length (fun j vs w' => vs = [S (((movesL h').take j).map fun p => o.getD p 0), .int .i64 j] ∧ Ext wb w') ⟨rfl, Ext.refl _⟩ ?_
          rintro j vs wc hj ⟨rfl, hxc⟩
          have hqc := hoy.sq.ext hxc
          by_cases hltj : j < (movesI h').length
          · have hltjI : (j : Int) < (movesI h').length := by omega
            have hltjJ : ¬ ((movesI h').length : Int) ≤ j := by omega
            obtain ⟨p, hp, hpl, hpm⟩ := moves_get hr hd (j := j) (by omega)
            have hso := sub_one o p (by omega)
            have hts := map_take_suc (fun p => o.getD p 0) 0 (movesL h') j (by rw [movesL, List.length_map]; omega)
            rw [hpm] at hts
            simp only [↓vsd, vsn, gW, qd, qv, ev, pick, argE, List.map_cons, List.map_nil, Option.map_some, Option.map_none, zipE, List.cons_append, List.nil_append, ne_eq, eq_self, forall_const, implies_true, if_true, if_false, reduceIte, List.cons.injEq, reduceCtorEq, Nat.reduceEqDiff, List.length_nil, List.length_cons, Nat.reduceAdd, Nat.reduceLT, List.set_cons_zero, List.set_cons_succ, ↓us_sConductLine, r_sConductLine, hqc.facts, hltjI, hltjJ, hqc.at1 0 hltj, hp]
            rw [hso]
            have hol : (((movesL h').take j).map fun p => o.getD p 0).length ≤ j := by rw [List.length_map, List.length_take]; omega
            refine ⟨by omega, inR_i64 (by omega), ⟨by omega, by omega, by omega⟩, by simp only [List.length_cons, List.length_nil]; omega, inR_i64 (by omega), UpTo.next hltj ⟨by rw [hts]; rfl, hxc⟩⟩
          · obtain rfl : j = (movesI h').length := by omega
            have hltjI : ¬ ((movesI h').length : Int) < (movesI h').length := by omega
            simp only [↓vsd, vsn, gW, qd, qv, ev, pick, argE, List.map_cons, List.map_nil, Option.map_some, Option.map_none, zipE, List.cons_append, List.nil_append, ne_eq, eq_self, forall_const, implies_true, if_true, if_false, reduceIte, List.cons.injEq, reduceCtorEq, Nat.reduceEqDiff, List.length_nil, List.length_cons, Nat.reduceAdd, Nat.reduceLT, List.set_cons_zero, List.set_cons_succ, ↓us_sConductLine, r_sConductLine, hltjI]
            have hte : ((movesL h').take (movesI h').length).map (fun p => o.getD p 0) = stepO o h' := by
              rw [List.take_of_length_le (by rw [movesI, List.length_map]; exact Nat.le_refl _)]; rfl
            rw [hte, ← hst]
            have hst2 : (ordO n cs b s t (i + 1)).length = n - 1 := ordO_len hM.1 t (i + 1)
            refine m_bsl (one_el rfl) ?_
            rintro bb wd hbb hblkb hxd hsb
            simp only [↓vsd, vsn, gW, qd, qv, ev, pick, argE, List.map_cons, List.map_nil, Option.map_some, Option.map_none, zipE, List.cons_append, List.nil_append, ne_eq, eq_self, forall_const, implies_true, if_true, if_false, reduceIte, List.cons.injEq, reduceCtorEq, Nat.reduceEqDiff, List.length_nil, List.length_cons, Nat.reduceAdd, Nat.reduceLT, List.set_cons_zero, List.set_cons_succ, ↓us_sConductLine, r_sConductLine]
            have hll : (lineL n cs b s t (i + 1)).length = i + 1 := by simp [lineL]
            have hxbd := (hxb.trans hxc).trans hxd
            have hod := hoa.ext hxbd
            have hx6d := hxa.trans hxbd
            have hitd := hita.ext hxbd
            refine m_app2 hod (Sq.one fS_len hblkb rfl) fS_one (by decide) (by rw [hll]; simp; omega) (by decide) hx6d.size ?_
            rintro x5 we hoe hge hne
            simp only [↓vsd, vsn, gW, qd, qv, ev, pick, argE, List.map_cons, List.map_nil, Option.map_some, Option.map_none, zipE, List.cons_append, List.nil_append, ne_eq, eq_self, forall_const, implies_true, if_true, if_false, reduceIte, List.cons.injEq, reduceCtorEq, Nat.reduceEqDiff, List.length_nil, List.length_cons, Nat.reduceAdd, Nat.reduceLT, List.set_cons_zero, List.set_cons_succ, ↓us_sConductLine, r_sConductLine]
            have hx6w : Ext w6 we := hod.grown hx6d (Nat.le_refl _) hge
            exact UpTo.next hlt ⟨x5, rfl, hok', hoe.to (by simp [lineL, List.range_succ]), hx6w, hitd.grown hge haw9, haw9.next hitd.lt hne⟩
        · have hnk : ¬ LineOk nm n cs b s t := fun hh => hd (hh.2 i hlt)
          simp only [↓vsd, vsn, gW, qd, qv, ev, pick, argE, List.map_cons, List.map_nil, Option.map_some, Option.map_none, zipE, List.cons_append, List.nil_append, ne_eq, eq_self, forall_const, implies_true, if_true, if_false, reduceIte, List.cons.injEq, reduceCtorEq, Nat.reduceEqDiff, List.length_nil, List.length_cons, Nat.reduceAdd, Nat.reduceLT, List.set_cons_zero, List.set_cons_succ, ↓us_sConductLine, r_sConductLine, hmv, hd]
          exact ⟨hx1a.trans hxb, hno hnk _⟩
      · intro hge
        have hie : i = t.length := by omega
        subst hie
        have hyes : LineOk nm n cs b s t := ⟨⟨hL, hM.1, hM.2⟩, hok⟩
        simp only [↓vsd, vsn, gW, qd, qv, ev, pick, argE, List.map_cons, List.map_nil, Option.map_some, Option.map_none, zipE, List.cons_append, List.nil_append, ne_eq, eq_self, forall_const, implies_true, if_true, if_false, reduceIte, List.cons.injEq, reduceCtorEq, Nat.reduceEqDiff, List.length_nil, List.length_cons, Nat.reduceAdd, Nat.reduceLT, List.set_cons_zero, List.set_cons_succ, ↓us_sConductLine, r_sConductLine]
        rw [decide_eq_true hyes, lineR, if_pos hyes]
        exact ⟨hx19, _, rfl, ho9.mono hx16.size⟩
    · simp only [↓vsd, vsn, gW, qd, qv, ev, pick, argE, List.map_cons, List.map_nil, Option.map_some, Option.map_none, zipE, List.cons_append, List.nil_append, ne_eq, eq_self, forall_const, implies_true, if_true, if_false, reduceIte, List.cons.injEq, reduceCtorEq, Nat.reduceEqDiff, List.length_nil, List.length_cons, Nat.reduceAdd, Nat.reduceLT, List.set_cons_zero, List.set_cons_succ, ↓us_sConductLine, r_sConductLine, hM]
      exact ⟨hx14, hno (fun hh => hM ⟨hh.1.2.1, hh.1.2.2⟩) _⟩
  · simp only [↓vsd, vsn, gW, qd, qv, ev, pick, argE, List.map_cons, List.map_nil, Option.map_some, Option.map_none, zipE, List.cons_append, List.nil_append, ne_eq, eq_self, forall_const, implies_true, if_true, if_false, reduceIte, List.cons.injEq, reduceCtorEq, Nat.reduceEqDiff, List.length_nil, List.length_cons, Nat.reduceAdd, Nat.reduceLT, List.set_cons_zero, List.set_cons_succ, ↓us_sConductLine, r_sConductLine, hL]
    exact ⟨hx13, hno (fun hh => hL hh.1.1) _⟩
end Go.Proofs.Ytjcnmobdlkmaeaa
