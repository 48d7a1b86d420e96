/-
  Calls: what a call does to a lead; a law's input of calls.
  Conditions: none.
-/
import Derived.Test.YtjcnmobdlkmaeaaA11
import Derived.Test.YtjcnmobdlkmaeaaVw
set_option linter.unusedSimpArgs false
set_option linter.unusedVariables false
set_option linter.defProp false
namespace Go.Proofs.Ytjcnmobdlkmaeaa
open Go Go.RowKit
def t_iisCall_1 : X := (.seq (.reg [2] (.c (.q 3 [] (.mv (.t 0))) (.c (.q 4 [] (.bin .eql (.t 3) (.s [112]))) (.c (.q 5 [] (.mv (.t 4))) (.c (.q 6 [(5, false)] (.mv (.t 0))) (.c (.q 7 [(5, false)] (.bin .eql (.t 6) (.s [98]))) (.c (.q 8 [] (.pick (.t 5) (.c (.bool true)) (.t 7))) (.c (.q 9 [] (.mv (.t 8))) (.c (.q 10 [(9, false)] (.mv (.t 0))) (.c (.q 11 [(9, false)] (.bin .eql (.t 10) (.s [115]))) (.c (.q 12 [] (.pick (.t 9) (.c (.bool true)) (.t 11))) (.c (.q 2 [] (.mv (.t 12))) .nil)))))))))))) .ret)
theorem u_iisCall_1 (P : Program) (k : KT) (e : Env) (w : World) : vcK P t_iisCall_1 k e w = vcK P (.seq (.reg [2] (.c (.q 3 [] (.mv (.t 0))) (.c (.q 4 [] (.bin .eql (.t 3) (.s [112]))) (.c (.q 5 [] (.mv (.t 4))) (.c (.q 6 [(5, false)] (.mv (.t 0))) (.c (.q 7 [(5, false)] (.bin .eql (.t 6) (.s [98]))) (.c (.q 8 [] (.pick (.t 5) (.c (.bool true)) (.t 7))) (.c (.q 9 [] (.mv (.t 8))) (.c (.q 10 [(9, false)] (.mv (.t 0))) (.c (.q 11 [(9, false)] (.bin .eql (.t 10) (.s [115]))) (.c (.q 12 [] (.pick (.t 9) (.c (.bool true)) (.t 11))) (.c (.q 2 [] (.mv (.t 12))) .nil)))))))))))) .ret) k e w := rfl
def x_iisCall : X := (.seq (.reg [0] (.c (.q 2 [] (.mv (.c (.bool false)))) .nil)) t_iisCall_1)
theorem u_iisCall (P : Program) (k : KT) (e : Env) (w : World) : vcK P x_iisCall k e w = vcK P (.seq (.reg [0] (.c (.q 2 [] (.mv (.c (.bool false)))) .nil)) t_iisCall_1) k e w := rfl
def r_iisCall : List XO := [(.mv (.t 2))]
theorem c_iisCall : convF Try.prog [145, 147, 148, 149, 158, 205, 206, 232, 234, 247, 248, 256, 261, 283, 284, 299, 300, 307] Try.f294 [([0], []), ([2], [])] = some (x_iisCall, r_iisCall) := by kernel_rfl
def us_iisCall := And.intro @u_iisCall @u_iisCall_1
def t_sl8Call_1 : X := (.seq (.reg [2] (.c (.q 3 [] (.mv (.t 0))) (.c (.q 4 [] (.bin .eql (.t 3) (.s [112]))) (.c (.q 5 [] (.mv (.t 4))) (.c (.q 6 [(5, false)] (.mv (.t 0))) (.c (.q 7 [(5, false)] (.bin .eql (.t 6) (.s [98]))) (.c (.q 8 [] (.pick (.t 5) (.c (.bool true)) (.t 7))) (.c (.q 9 [] (.mv (.t 8))) (.c (.q 10 [(9, false)] (.mv (.t 0))) (.c (.q 11 [(9, false)] (.bin .eql (.t 10) (.s [115]))) (.c (.q 12 [] (.pick (.t 9) (.c (.bool true)) (.t 11))) (.c (.q 2 [] (.mv (.t 12))) .nil)))))))))))) .ret)
theorem u_sl8Call_1 (P : Program) (k : KT) (e : Env) (w : World) : vcK P t_sl8Call_1 k e w = vcK P (.seq (.reg [2] (.c (.q 3 [] (.mv (.t 0))) (.c (.q 4 [] (.bin .eql (.t 3) (.s [112]))) (.c (.q 5 [] (.mv (.t 4))) (.c (.q 6 [(5, false)] (.mv (.t 0))) (.c (.q 7 [(5, false)] (.bin .eql (.t 6) (.s [98]))) (.c (.q 8 [] (.pick (.t 5) (.c (.bool true)) (.t 7))) (.c (.q 9 [] (.mv (.t 8))) (.c (.q 10 [(9, false)] (.mv (.t 0))) (.c (.q 11 [(9, false)] (.bin .eql (.t 10) (.s [115]))) (.c (.q 12 [] (.pick (.t 9) (.c (.bool true)) (.t 11))) (.c (.q 2 [] (.mv (.t 12))) .nil)))))))))))) .ret) k e w := rfl
def x_sl8Call : X := (.seq (.reg [0] (.c (.q 2 [] (.mv (.c (.bool false)))) .nil)) t_sl8Call_1)
theorem u_sl8Call (P : Program) (k : KT) (e : Env) (w : World) : vcK P x_sl8Call k e w = vcK P (.seq (.reg [0] (.c (.q 2 [] (.mv (.c (.bool false)))) .nil)) t_sl8Call_1) k e w := rfl
def r_sl8Call : List XO := [(.mv (.t 2))]
theorem c_sl8Call : convF Try.prog [145, 147, 148, 149, 158, 205, 206, 232, 234, 247, 248, 256, 261, 283, 284, 299, 300, 307] Try.f295 [([0], []), ([2], [])] = some (x_sl8Call, r_sl8Call) := by kernel_rfl
def us_sl8Call := And.intro @u_sl8Call @u_sl8Call_1
def t_iGoodCalls_1 : X := (.seq (.reg [4] (.c (.q 5 [] (.lda 3 (.t 2))) (.c (.e (some 6) [] (.call false 188 [(.t 5)])) (.c (.q 7 [] (.mv (.t 6))) (.c (.q 8 [(7, true)] (.fa 1 (.t 2))) (.c (.q 9 [(7, true)] (.ld (.t 8))) (.c (.q 10 [(7, true)] (.fa 0 (.t 3))) (.c (.q 11 [(7, true)] (.ld (.t 10))) (.c (.e (some 12) [(7, true)] (.call false 27 [(.t 9), (.t 11)])) (.c (.q 13 [] (.pick (.t 7) (.t 12) (.c (.bool false)))) (.c (.q 14 [] (.mv (.t 13))) (.c (.q 15 [(14, true)] (.fa 1 (.t 2))) (.c (.q 16 [(14, true)] (.ld (.t 15))) (.c (.q 17 [(14, true)] (.fa 1 (.t 3))) (.c (.q 18 [(14, true)] (.ld (.t 17))) (.c (.e (some 19) [(14, true)] (.call false 27 [(.t 16), (.t 18)])) (.c (.q 20 [] (.pick (.t 14) (.t 19) (.c (.bool false)))) (.c (.q 4 [] (.mv (.t 20))) .nil)))))))))))))))))) .ret)
theorem u_iGoodCalls_1 (P : Program) (k : KT) (e : Env) (w : World) : vcK P t_iGoodCalls_1 k e w = vcK P (.seq (.reg [4] (.c (.q 5 [] (.lda 3 (.t 2))) (.c (.e (some 6) [] (.call false 188 [(.t 5)])) (.c (.q 7 [] (.mv (.t 6))) (.c (.q 8 [(7, true)] (.fa 1 (.t 2))) (.c (.q 9 [(7, true)] (.ld (.t 8))) (.c (.q 10 [(7, true)] (.fa 0 (.t 3))) (.c (.q 11 [(7, true)] (.ld (.t 10))) (.c (.e (some 12) [(7, true)] (.call false 27 [(.t 9), (.t 11)])) (.c (.q 13 [] (.pick (.t 7) (.t 12) (.c (.bool false)))) (.c (.q 14 [] (.mv (.t 13))) (.c (.q 15 [(14, true)] (.fa 1 (.t 2))) (.c (.q 16 [(14, true)] (.ld (.t 15))) (.c (.q 17 [(14, true)] (.fa 1 (.t 3))) (.c (.q 18 [(14, true)] (.ld (.t 17))) (.c (.e (some 19) [(14, true)] (.call false 27 [(.t 16), (.t 18)])) (.c (.q 20 [] (.pick (.t 14) (.t 19) (.c (.bool false)))) (.c (.q 4 [] (.mv (.t 20))) .nil)))))))))))))))))) .ret) k e w := rfl
def x_iGoodCalls : X := (.seq (.reg [2, 3] (.c (.e (some 2) [] (.box 58 (.t 0))) (.c (.e (some 3) [] (.box 47 (.t 1))) (.c (.q 4 [] (.mv (.c (.bool false)))) .nil)))) t_iGoodCalls_1)
theorem u_iGoodCalls (P : Program) (k : KT) (e : Env) (w : World) : vcK P x_iGoodCalls k e w = vcK P (.seq (.reg [2, 3] (.c (.e (some 2) [] (.box 58 (.t 0))) (.c (.e (some 3) [] (.box 47 (.t 1))) (.c (.q 4 [] (.mv (.c (.bool false)))) .nil)))) t_iGoodCalls_1) k e w := rfl
def r_iGoodCalls : List XO := [(.mv (.t 4))]
theorem c_iGoodCalls : convF Try.prog [145, 147, 148, 149, 158, 205, 206, 232, 234, 247, 248, 256, 261, 283, 284, 299, 300, 307] Try.f274 [([2, 3], []), ([4], [])] = some (x_iGoodCalls, r_iGoodCalls) := by kernel_rfl
def us_iGoodCalls := And.intro @u_iGoodCalls @u_iGoodCalls_1
def t_sl8Good_1 : X := (.seq (.reg [4] (.c (.q 5 [] (.lda 3 (.t 2))) (.c (.e (some 6) [] (.call false 191 [(.t 5)])) (.c (.q 7 [] (.mv (.t 6))) (.c (.q 8 [(7, true)] (.fa 1 (.t 2))) (.c (.q 9 [(7, true)] (.ld (.t 8))) (.c (.q 10 [(7, true)] (.fa 0 (.t 3))) (.c (.q 11 [(7, true)] (.ld (.t 10))) (.c (.e (some 12) [(7, true)] (.call false 152 [(.t 9), (.t 11)])) (.c (.q 13 [] (.pick (.t 7) (.t 12) (.c (.bool false)))) (.c (.q 14 [] (.mv (.t 13))) (.c (.q 15 [(14, true)] (.fa 1 (.t 2))) (.c (.q 16 [(14, true)] (.ld (.t 15))) (.c (.q 17 [(14, true)] (.fa 1 (.t 3))) (.c (.q 18 [(14, true)] (.ld (.t 17))) (.c (.e (some 19) [(14, true)] (.call false 152 [(.t 16), (.t 18)])) (.c (.q 20 [] (.pick (.t 14) (.t 19) (.c (.bool false)))) (.c (.q 4 [] (.mv (.t 20))) .nil)))))))))))))))))) .ret)
theorem u_sl8Good_1 (P : Program) (k : KT) (e : Env) (w : World) : vcK P t_sl8Good_1 k e w = vcK P (.seq (.reg [4] (.c (.q 5 [] (.lda 3 (.t 2))) (.c (.e (some 6) [] (.call false 191 [(.t 5)])) (.c (.q 7 [] (.mv (.t 6))) (.c (.q 8 [(7, true)] (.fa 1 (.t 2))) (.c (.q 9 [(7, true)] (.ld (.t 8))) (.c (.q 10 [(7, true)] (.fa 0 (.t 3))) (.c (.q 11 [(7, true)] (.ld (.t 10))) (.c (.e (some 12) [(7, true)] (.call false 152 [(.t 9), (.t 11)])) (.c (.q 13 [] (.pick (.t 7) (.t 12) (.c (.bool false)))) (.c (.q 14 [] (.mv (.t 13))) (.c (.q 15 [(14, true)] (.fa 1 (.t 2))) (.c (.q 16 [(14, true)] (.ld (.t 15))) (.c (.q 17 [(14, true)] (.fa 1 (.t 3))) (.c (.q 18 [(14, true)] (.ld (.t 17))) (.c (.e (some 19) [(14, true)] (.call false 152 [(.t 16), (.t 18)])) (.c (.q 20 [] (.pick (.t 14) (.t 19) (.c (.bool false)))) (.c (.q 4 [] (.mv (.t 20))) .nil)))))))))))))))))) .ret) k e w := rfl
def x_sl8Good : X := (.seq (.reg [2, 3] (.c (.e (some 2) [] (.box 58 (.t 0))) (.c (.e (some 3) [] (.box 47 (.t 1))) (.c (.q 4 [] (.mv (.c (.bool false)))) .nil)))) t_sl8Good_1)
theorem u_sl8Good (P : Program) (k : KT) (e : Env) (w : World) : vcK P x_sl8Good k e w = vcK P (.seq (.reg [2, 3] (.c (.e (some 2) [] (.box 58 (.t 0))) (.c (.e (some 3) [] (.box 47 (.t 1))) (.c (.q 4 [] (.mv (.c (.bool false)))) .nil)))) t_sl8Good_1) k e w := rfl
def r_sl8Good : List XO := [(.mv (.t 4))]
theorem c_sl8Good : convF Try.prog [145, 147, 148, 149, 158, 205, 206, 232, 234, 247, 248, 256, 261, 283, 284, 299, 300, 307] Try.f272 [([2, 3], []), ([4], [])] = some (x_sl8Good, r_sl8Good) := by kernel_rfl
def us_sl8Good := And.intro @u_sl8Good @u_sl8Good_1
def t_sl8Asked_1 : X := (.seq (.reg [6] (.c (.q 7 [] (.lda 3 (.t 3))) (.c (.q 8 [] (.lda 2 (.t 4))) (.c (.e (some 9) [] (.call false 272 [(.t 7), (.t 8)])) (.c (.q 10 [] (.mv (.t 9))) (.c (.q 11 [(10, true)] (.mv (.t 2))) (.c (.e (some 12) [(10, true)] (.call false 295 [(.t 11)])) (.c (.q 13 [] (.pick (.t 10) (.t 12) (.c (.bool false)))) (.c (.q 6 [] (.mv (.t 13))) .nil))))))))) .ret)
theorem u_sl8Asked_1 (P : Program) (k : KT) (e : Env) (w : World) : vcK P t_sl8Asked_1 k e w = vcK P (.seq (.reg [6] (.c (.q 7 [] (.lda 3 (.t 3))) (.c (.q 8 [] (.lda 2 (.t 4))) (.c (.e (some 9) [] (.call false 272 [(.t 7), (.t 8)])) (.c (.q 10 [] (.mv (.t 9))) (.c (.q 11 [(10, true)] (.mv (.t 2))) (.c (.e (some 12) [(10, true)] (.call false 295 [(.t 11)])) (.c (.q 13 [] (.pick (.t 10) (.t 12) (.c (.bool false)))) (.c (.q 6 [] (.mv (.t 13))) .nil))))))))) .ret) k e w := rfl
def x_sl8Asked : X := (.seq (.reg [2, 3, 4] (.c (.e (some 3) [] (.box 58 (.t 0))) (.c (.e (some 4) [] (.box 47 (.t 1))) (.c (.q 6 [] (.mv (.c (.bool false)))) .nil)))) t_sl8Asked_1)
theorem u_sl8Asked (P : Program) (k : KT) (e : Env) (w : World) : vcK P x_sl8Asked k e w = vcK P (.seq (.reg [2, 3, 4] (.c (.e (some 3) [] (.box 58 (.t 0))) (.c (.e (some 4) [] (.box 47 (.t 1))) (.c (.q 6 [] (.mv (.c (.bool false)))) .nil)))) t_sl8Asked_1) k e w := rfl
def r_sl8Asked : List XO := [(.mv (.t 6))]
theorem c_sl8Asked : convF Try.prog [145, 147, 148, 149, 158, 205, 206, 232, 234, 247, 248, 256, 261, 283, 284, 299, 300, 307] Try.f242 [([2, 3, 4], []), ([6], [])] = some (x_sl8Asked, r_sl8Asked) := by kernel_rfl
def us_sl8Asked := And.intro @u_sl8Asked @u_sl8Asked_1
def t_iwithChanges_1 : X := (.seq (.reg [4] (.c (.q 5 [] (.fa 0 (.t 2))) (.c (.q 6 [] (.ld (.t 5))) (.c (.q 7 [] (.fa 1 (.t 2))) (.c (.q 8 [] (.ld (.t 7))) (.c (.q 9 [] (.mv (.t 1))) (.c (.q 10 [] (.bld [(S []), (.int .i64 0), (.slice none 0 0)] [(0, 0, (.t 6)), (1, 0, (.t 8)), (2, 0, (.t 9))])) (.c (.e none [] (.st 3 (.t 4) (.t 10))) .nil)))))))) .ret)
theorem u_iwithChanges_1 (P : Program) (k : KT) (e : Env) (w : World) : vcK P t_iwithChanges_1 k e w = vcK P (.seq (.reg [4] (.c (.q 5 [] (.fa 0 (.t 2))) (.c (.q 6 [] (.ld (.t 5))) (.c (.q 7 [] (.fa 1 (.t 2))) (.c (.q 8 [] (.ld (.t 7))) (.c (.q 9 [] (.mv (.t 1))) (.c (.q 10 [] (.bld [(S []), (.int .i64 0), (.slice none 0 0)] [(0, 0, (.t 6)), (1, 0, (.t 8)), (2, 0, (.t 9))])) (.c (.e none [] (.st 3 (.t 4) (.t 10))) .nil)))))))) .ret) k e w := rfl
def x_iwithChanges : X := (.seq (.reg [1, 2, 4] (.c (.e (some 2) [] (.box 58 (.t 0))) (.c (.e (some 4) [] (.al 58 [(S []), (.int .i64 0), (.slice none 0 0)])) .nil))) t_iwithChanges_1)
theorem u_iwithChanges (P : Program) (k : KT) (e : Env) (w : World) : vcK P x_iwithChanges k e w = vcK P (.seq (.reg [1, 2, 4] (.c (.e (some 2) [] (.box 58 (.t 0))) (.c (.e (some 4) [] (.al 58 [(S []), (.int .i64 0), (.slice none 0 0)])) .nil))) t_iwithChanges_1) k e w := rfl
def r_iwithChanges : List XO := [(.lda 3 (.t 4))]
theorem c_iwithChanges : convF Try.prog [145, 147, 148, 149, 158, 205, 206, 232, 234, 247, 248, 256, 261, 283, 284, 299, 300, 307] Try.f197 [([1, 2, 4], []), ([4], [])] = some (x_iwithChanges, r_iwithChanges) := by kernel_rfl
def us_iwithChanges := And.intro @u_iwithChanges @u_iwithChanges_1
def t_sl8Change_1 : X := (.cond (.t 12) (.seq (.reg [6] (.c (.q 14 [] (.fa 1 (.t 4))) (.c (.q 15 [] (.ld (.t 14))) (.c (.q 6 [] (.mv (.t 15))) .nil)))) .ret) .skip)
theorem u_sl8Change_1 (P : Program) (k : KT) (e : Env) (w : World) : vcK P t_sl8Change_1 k e w = vcK P (.cond (.t 12) (.seq (.reg [6] (.c (.q 14 [] (.fa 1 (.t 4))) (.c (.q 15 [] (.ld (.t 14))) (.c (.q 6 [] (.mv (.t 15))) .nil)))) .ret) .skip) k e w := rfl
def t_sl8Change_2 : X := (.cond (.t 8) (.seq (.reg [6] (.c (.q 10 [] (.fa 0 (.t 4))) (.c (.q 11 [] (.ld (.t 10))) (.c (.q 6 [] (.mv (.t 11))) .nil)))) .ret) (.seq (.reg [3, 4, 12] (.c (.q 13 [] (.bin .eql (.t 7) (.s [115]))) (.c (.q 12 [] (.mv (.t 13))) .nil))) t_sl8Change_1))
theorem u_sl8Change_2 (P : Program) (k : KT) (e : Env) (w : World) : vcK P t_sl8Change_2 k e w = vcK P (.cond (.t 8) (.seq (.reg [6] (.c (.q 10 [] (.fa 0 (.t 4))) (.c (.q 11 [] (.ld (.t 10))) (.c (.q 6 [] (.mv (.t 11))) .nil)))) .ret) (.seq (.reg [3, 4, 12] (.c (.q 13 [] (.bin .eql (.t 7) (.s [115]))) (.c (.q 12 [] (.mv (.t 13))) .nil))) t_sl8Change_1)) k e w := rfl
def t_sl8Change_3 : X := (.blk 0 (.seq (.reg [3, 4, 7, 8] (.c (.q 9 [] (.bin .eql (.t 7) (.s [98]))) (.c (.q 8 [] (.mv (.t 9))) .nil))) t_sl8Change_2))
theorem u_sl8Change_3 (P : Program) (k : KT) (e : Env) (w : World) : vcK P t_sl8Change_3 k e w = vcK P (.blk 0 (.seq (.reg [3, 4, 7, 8] (.c (.q 9 [] (.bin .eql (.t 7) (.s [98]))) (.c (.q 8 [] (.mv (.t 9))) .nil))) t_sl8Change_2)) k e w := rfl
def t_sl8Change_4 : X := (.seq (.reg [6] (.c (.q 16 [] (.fa 2 (.t 3))) (.c (.q 17 [] (.ld (.t 16))) (.c (.q 18 [] (.fa 2 (.t 3))) (.c (.q 19 [] (.ld (.t 18))) (.c (.q 20 [] (.lens (.t 19))) (.c (.q 21 [] (.bin .sub (.t 20) (.c (.int .i64 1)))) (.c (.q 22 [] (.ia 1 (.t 17) (.t 21))) (.c (.q 23 [] (.ld (.t 22))) (.c (.q 6 [] (.mv (.t 23))) .nil)))))))))) .ret)
theorem u_sl8Change_4 (P : Program) (k : KT) (e : Env) (w : World) : vcK P t_sl8Change_4 k e w = vcK P (.seq (.reg [6] (.c (.q 16 [] (.fa 2 (.t 3))) (.c (.q 17 [] (.ld (.t 16))) (.c (.q 18 [] (.fa 2 (.t 3))) (.c (.q 19 [] (.ld (.t 18))) (.c (.q 20 [] (.lens (.t 19))) (.c (.q 21 [] (.bin .sub (.t 20) (.c (.int .i64 1)))) (.c (.q 22 [] (.ia 1 (.t 17) (.t 21))) (.c (.q 23 [] (.ld (.t 22))) (.c (.q 6 [] (.mv (.t 23))) .nil)))))))))) .ret) k e w := rfl
def t_sl8Change_5 : X := (.seq (.seq (.reg [3, 4, 7] (.c (.q 7 [] (.mv (.t 2))) .nil)) t_sl8Change_3) t_sl8Change_4)
theorem u_sl8Change_5 (P : Program) (k : KT) (e : Env) (w : World) : vcK P t_sl8Change_5 k e w = vcK P (.seq (.seq (.reg [3, 4, 7] (.c (.q 7 [] (.mv (.t 2))) .nil)) t_sl8Change_3) t_sl8Change_4) k e w := rfl
def x_sl8Change : X := (.seq (.reg [2, 3, 4] (.c (.e (some 3) [] (.box 58 (.t 0))) (.c (.e (some 4) [] (.box 47 (.t 1))) (.c (.q 6 [] (.mv (.s []))) .nil)))) t_sl8Change_5)
theorem u_sl8Change (P : Program) (k : KT) (e : Env) (w : World) : vcK P x_sl8Change k e w = vcK P (.seq (.reg [2, 3, 4] (.c (.e (some 3) [] (.box 58 (.t 0))) (.c (.e (some 4) [] (.box 47 (.t 1))) (.c (.q 6 [] (.mv (.s []))) .nil)))) t_sl8Change_5) k e w := rfl
def r_sl8Change : List XO := [(.mv (.t 6))]
theorem c_sl8Change : convF Try.prog [145, 147, 148, 149, 158, 205, 206, 232, 234, 247, 248, 256, 261, 283, 284, 299, 300, 307] Try.f296 [([2, 3, 4], []), ([3, 4, 7], []), ([3, 4, 7, 8], []), ([6], []), ([3, 4, 12], []), ([6], []), ([6], [])] = some (x_sl8Change, r_sl8Change) := by kernel_rfl
def us_sl8Change := And.intro @u_sl8Change (And.intro @u_sl8Change_1 (And.intro @u_sl8Change_2 (And.intro @u_sl8Change_3 (And.intro @u_sl8Change_4 @u_sl8Change_5))))
def t_sl8Head_1 : X := (.seq (.reg [6] (.c (.q 25 [] (.mv (.t 9))) (.c (.q 26 [] (.lda 3 (.t 3))) (.c (.q 27 [] (.lda 2 (.t 4))) (.c (.q 28 [] (.mv (.t 2))) (.c (.e (some 29) [] (.call false 296 [(.t 26), (.t 27), (.t 28)])) (.c (.e (some 30) [] (.call false 153 [(.t 25), (.t 29)])) (.c (.q 6 [] (.mv (.t 30))) .nil)))))))) .ret)
theorem u_sl8Head_1 (P : Program) (k : KT) (e : Env) (w : World) : vcK P t_sl8Head_1 k e w = vcK P (.seq (.reg [6] (.c (.q 25 [] (.mv (.t 9))) (.c (.q 26 [] (.lda 3 (.t 3))) (.c (.q 27 [] (.lda 2 (.t 4))) (.c (.q 28 [] (.mv (.t 2))) (.c (.e (some 29) [] (.call false 296 [(.t 26), (.t 27), (.t 28)])) (.c (.e (some 30) [] (.call false 153 [(.t 25), (.t 29)])) (.c (.q 6 [] (.mv (.t 30))) .nil)))))))) .ret) k e w := rfl
def t_sl8Head_2 : X := (.seq (.drw [2, 3, 4, 9] (.c (.q 15 [] (.fa 2 (.t 3))) (.c (.q 16 [] (.ld (.t 15))) (.c (.q 17 [] (.mv (.t 7))) (.c (.q 18 [] (.ssl 1 (.t 16) none (some (.t 17)))) (.c (.q 19 [] (.fa 1 (.t 3))) (.c (.q 20 [] (.ld (.t 19))) (.c (.e (some 21) [] (.call false 180 [(.t 20)])) (.c (.e (some 22) [] (.call false 194 [(.t 18), (.t 21)])) (.c (.q 14 [] (.mv (.t 22))) (.c (.q 23 [] (.ext 0 (.t 14))) (.c (.q 24 [] (.ext 1 (.t 14))) (.c (.q 8 [] (.mv (.t 23))) (.c (.q 9 [] (.mv (.t 24))) .nil)))))))))))))) t_sl8Head_1)
theorem u_sl8Head_2 (P : Program) (k : KT) (e : Env) (w : World) : vcK P t_sl8Head_2 k e w = vcK P (.seq (.drw [2, 3, 4, 9] (.c (.q 15 [] (.fa 2 (.t 3))) (.c (.q 16 [] (.ld (.t 15))) (.c (.q 17 [] (.mv (.t 7))) (.c (.q 18 [] (.ssl 1 (.t 16) none (some (.t 17)))) (.c (.q 19 [] (.fa 1 (.t 3))) (.c (.q 20 [] (.ld (.t 19))) (.c (.e (some 21) [] (.call false 180 [(.t 20)])) (.c (.e (some 22) [] (.call false 194 [(.t 18), (.t 21)])) (.c (.q 14 [] (.mv (.t 22))) (.c (.q 23 [] (.ext 0 (.t 14))) (.c (.q 24 [] (.ext 1 (.t 14))) (.c (.q 8 [] (.mv (.t 23))) (.c (.q 9 [] (.mv (.t 24))) .nil)))))))))))))) t_sl8Head_1) k e w := rfl
def t_sl8Head_3 : X := (.seq (.reg [2, 3, 4, 7] (.c (.q 10 [] (.fa 2 (.t 3))) (.c (.q 11 [] (.ld (.t 10))) (.c (.q 12 [] (.lens (.t 11))) (.c (.q 13 [] (.bin .sub (.t 12) (.c (.int .i64 1)))) (.c (.q 7 [] (.mv (.t 13))) .nil)))))) t_sl8Head_2)
theorem u_sl8Head_3 (P : Program) (k : KT) (e : Env) (w : World) : vcK P t_sl8Head_3 k e w = vcK P (.seq (.reg [2, 3, 4, 7] (.c (.q 10 [] (.fa 2 (.t 3))) (.c (.q 11 [] (.ld (.t 10))) (.c (.q 12 [] (.lens (.t 11))) (.c (.q 13 [] (.bin .sub (.t 12) (.c (.int .i64 1)))) (.c (.q 7 [] (.mv (.t 13))) .nil)))))) t_sl8Head_2) k e w := rfl
def x_sl8Head : X := (.seq (.reg [2, 3, 4] (.c (.e (some 3) [] (.box 58 (.t 0))) (.c (.e (some 4) [] (.box 47 (.t 1))) (.c (.q 6 [] (.mv (.s []))) .nil)))) t_sl8Head_3)
theorem u_sl8Head (P : Program) (k : KT) (e : Env) (w : World) : vcK P x_sl8Head k e w = vcK P (.seq (.reg [2, 3, 4] (.c (.e (some 3) [] (.box 58 (.t 0))) (.c (.e (some 4) [] (.box 47 (.t 1))) (.c (.q 6 [] (.mv (.s []))) .nil)))) t_sl8Head_3) k e w := rfl
def r_sl8Head : List XO := [(.mv (.t 6))]
theorem c_sl8Head : convF Try.prog [145, 147, 148, 149, 158, 205, 206, 232, 234, 247, 248, 256, 261, 283, 284, 299, 300, 307] Try.f243 [([2, 3, 4], []), ([2, 3, 4, 7], []), ([2, 3, 4, 9], []), ([6], [])] = some (x_sl8Head, r_sl8Head) := by kernel_rfl
def us_sl8Head := And.intro @u_sl8Head (And.intro @u_sl8Head_1 (And.intro @u_sl8Head_2 @u_sl8Head_3))
def t_lszCalls_1 : X := (.cond (.t 11) (.seq (.reg [4] (.c (.q 4 [] (.mv (.c (.int .i64 (-1))))) .nil)) .ret) .skip)
theorem u_lszCalls_1 (P : Program) (k : KT) (e : Env) (w : World) : vcK P t_lszCalls_1 k e w = vcK P (.cond (.t 11) (.seq (.reg [4] (.c (.q 4 [] (.mv (.c (.int .i64 (-1))))) .nil)) .ret) .skip) k e w := rfl
def t_lszCalls_2 : X := (.cond (.t 18) (.seq (.reg [4] (.c (.q 4 [] (.mv (.c (.int .i64 (-1))))) .nil)) .ret) .skip)
theorem u_lszCalls_2 (P : Program) (k : KT) (e : Env) (w : World) : vcK P t_lszCalls_2 k e w = vcK P (.cond (.t 18) (.seq (.reg [4] (.c (.q 4 [] (.mv (.c (.int .i64 (-1))))) .nil)) .ret) .skip) k e w := rfl
def t_lszCalls_3 : X := (.seq (.reg [4] (.c (.q 19 [] (.mv (.t 1))) (.c (.q 4 [] (.mv (.t 19))) .nil))) .ret)
theorem u_lszCalls_3 (P : Program) (k : KT) (e : Env) (w : World) : vcK P t_lszCalls_3 k e w = vcK P (.seq (.reg [4] (.c (.q 19 [] (.mv (.t 1))) (.c (.q 4 [] (.mv (.t 19))) .nil))) .ret) k e w := rfl
def t_lszCalls_4 : X := (.seq (.seq (.reg [1, 18] (.c (.q 17 [] (.mv (.t 1))) (.c (.q 18 [] (.bin .lss (.t 17) (.c (.int .i64 0)))) .nil))) t_lszCalls_2) t_lszCalls_3)
theorem u_lszCalls_4 (P : Program) (k : KT) (e : Env) (w : World) : vcK P t_lszCalls_4 k e w = vcK P (.seq (.seq (.reg [1, 18] (.c (.q 17 [] (.mv (.t 1))) (.c (.q 18 [] (.bin .lss (.t 17) (.c (.int .i64 0)))) .nil))) t_lszCalls_2) t_lszCalls_3) k e w := rfl
def t_lszCalls_5 : X := (.seq (.reg [1] (.c (.q 12 [] (.mv (.t 1))) (.c (.q 13 [] (.fa 1 (.t 2))) (.c (.q 14 [] (.ld (.t 13))) (.c (.q 15 [] (.len (.t 14))) (.c (.q 16 [] (.bin .sub (.t 12) (.t 15))) (.c (.q 1 [] (.mv (.t 16))) .nil))))))) t_lszCalls_4)
theorem u_lszCalls_5 (P : Program) (k : KT) (e : Env) (w : World) : vcK P t_lszCalls_5 k e w = vcK P (.seq (.reg [1] (.c (.q 12 [] (.mv (.t 1))) (.c (.q 13 [] (.fa 1 (.t 2))) (.c (.q 14 [] (.ld (.t 13))) (.c (.q 15 [] (.len (.t 14))) (.c (.q 16 [] (.bin .sub (.t 12) (.t 15))) (.c (.q 1 [] (.mv (.t 16))) .nil))))))) t_lszCalls_4) k e w := rfl
def t_lszCalls_6 : X := (.seq (.seq (.reg [1, 2, 11] (.c (.q 10 [] (.mv (.t 1))) (.c (.q 11 [] (.bin .lss (.t 10) (.c (.int .i64 0)))) .nil))) t_lszCalls_1) t_lszCalls_5)
theorem u_lszCalls_6 (P : Program) (k : KT) (e : Env) (w : World) : vcK P t_lszCalls_6 k e w = vcK P (.seq (.seq (.reg [1, 2, 11] (.c (.q 10 [] (.mv (.t 1))) (.c (.q 11 [] (.bin .lss (.t 10) (.c (.int .i64 0)))) .nil))) t_lszCalls_1) t_lszCalls_5) k e w := rfl
def t_lszCalls_7 : X := (.seq (.reg [1, 2] (.c (.q 5 [] (.mv (.t 1))) (.c (.q 6 [] (.fa 0 (.t 2))) (.c (.q 7 [] (.ld (.t 6))) (.c (.q 8 [] (.len (.t 7))) (.c (.q 9 [] (.bin .sub (.t 5) (.t 8))) (.c (.q 1 [] (.mv (.t 9))) .nil))))))) t_lszCalls_6)
theorem u_lszCalls_7 (P : Program) (k : KT) (e : Env) (w : World) : vcK P t_lszCalls_7 k e w = vcK P (.seq (.reg [1, 2] (.c (.q 5 [] (.mv (.t 1))) (.c (.q 6 [] (.fa 0 (.t 2))) (.c (.q 7 [] (.ld (.t 6))) (.c (.q 8 [] (.len (.t 7))) (.c (.q 9 [] (.bin .sub (.t 5) (.t 8))) (.c (.q 1 [] (.mv (.t 9))) .nil))))))) t_lszCalls_6) k e w := rfl
def x_lszCalls : X := (.seq (.reg [1, 2] (.c (.e (some 2) [] (.box 39 (.t 0))) (.c (.q 4 [] (.mv (.c (.int .i64 0)))) .nil))) t_lszCalls_7)
theorem u_lszCalls (P : Program) (k : KT) (e : Env) (w : World) : vcK P x_lszCalls k e w = vcK P (.seq (.reg [1, 2] (.c (.e (some 2) [] (.box 39 (.t 0))) (.c (.q 4 [] (.mv (.c (.int .i64 0)))) .nil))) t_lszCalls_7) k e w := rfl
def r_lszCalls : List XO := [(.mv (.t 4))]
theorem c_lszCalls : convF Try.prog [145, 147, 148, 149, 158, 205, 206, 232, 234, 247, 248, 256, 261, 283, 284, 299, 300, 307] Try.f31 [([1, 2], []), ([1, 2], []), ([1, 2, 11], []), ([4], []), ([1], []), ([1, 18], []), ([4], []), ([4], [])] = some (x_lszCalls, r_lszCalls) := by kernel_rfl
def us_lszCalls := And.intro @u_lszCalls (And.intro @u_lszCalls_1 (And.intro @u_lszCalls_2 (And.intro @u_lszCalls_3 (And.intro @u_lszCalls_4 (And.intro @u_lszCalls_5 (And.intro @u_lszCalls_6 @u_lszCalls_7))))))
def t_ltoCalls_1 : X := (.seq (.reg [2] (.c (.q 10 [] (.lda 2 (.t 3))) (.c (.e none [] (.st 2 (.t 2) (.t 10))) .nil))) .ret)
theorem u_ltoCalls_1 (P : Program) (k : KT) (e : Env) (w : World) : vcK P t_ltoCalls_1 k e w = vcK P (.seq (.reg [2] (.c (.q 10 [] (.lda 2 (.t 3))) (.c (.e none [] (.st 2 (.t 2) (.t 10))) .nil))) .ret) k e w := rfl
def t_ltoCalls_2 : X := (.seq (.reg [2, 3] (.c (.q 7 [] (.fa 1 (.t 1))) (.c (.q 8 [] (.ld (.t 7))) (.c (.q 9 [] (.fa 1 (.t 3))) (.c (.e none [] (.st 1 (.t 9) (.t 8))) .nil))))) t_ltoCalls_1)
theorem u_ltoCalls_2 (P : Program) (k : KT) (e : Env) (w : World) : vcK P t_ltoCalls_2 k e w = vcK P (.seq (.reg [2, 3] (.c (.q 7 [] (.fa 1 (.t 1))) (.c (.q 8 [] (.ld (.t 7))) (.c (.q 9 [] (.fa 1 (.t 3))) (.c (.e none [] (.st 1 (.t 9) (.t 8))) .nil))))) t_ltoCalls_1) k e w := rfl
def t_ltoCalls_3 : X := (.seq (.reg [1, 2, 3] (.c (.q 4 [] (.fa 0 (.t 1))) (.c (.q 5 [] (.ld (.t 4))) (.c (.q 6 [] (.fa 0 (.t 3))) (.c (.e none [] (.st 1 (.t 6) (.t 5))) .nil))))) t_ltoCalls_2)
theorem u_ltoCalls_3 (P : Program) (k : KT) (e : Env) (w : World) : vcK P t_ltoCalls_3 k e w = vcK P (.seq (.reg [1, 2, 3] (.c (.q 4 [] (.fa 0 (.t 1))) (.c (.q 5 [] (.ld (.t 4))) (.c (.q 6 [] (.fa 0 (.t 3))) (.c (.e none [] (.st 1 (.t 6) (.t 5))) .nil))))) t_ltoCalls_2) k e w := rfl
def t_ltoCalls_4 : X := (.seq (.reg [1, 2, 3] (.c (.e (some 3) [] (.al 47 [(S []), (S [])])) .nil)) t_ltoCalls_3)
theorem u_ltoCalls_4 (P : Program) (k : KT) (e : Env) (w : World) : vcK P t_ltoCalls_4 k e w = vcK P (.seq (.reg [1, 2, 3] (.c (.e (some 3) [] (.al 47 [(S []), (S [])])) .nil)) t_ltoCalls_3) k e w := rfl
def x_ltoCalls : X := (.seq (.reg [1, 2] (.c (.e (some 1) [] (.box 39 (.t 0))) (.c (.e (some 2) [] (.al 47 [(S []), (S [])])) .nil))) t_ltoCalls_4)
theorem u_ltoCalls (P : Program) (k : KT) (e : Env) (w : World) : vcK P x_ltoCalls k e w = vcK P (.seq (.reg [1, 2] (.c (.e (some 1) [] (.box 39 (.t 0))) (.c (.e (some 2) [] (.al 47 [(S []), (S [])])) .nil))) t_ltoCalls_4) k e w := rfl
def r_ltoCalls : List XO := [(.lda 2 (.t 2))]
theorem c_ltoCalls : convF Try.prog [145, 147, 148, 149, 158, 205, 206, 232, 234, 247, 248, 256, 261, 283, 284, 299, 300, 307] Try.f34 [([1, 2], []), ([1, 2, 3], []), ([1, 2, 3], []), ([2, 3], []), ([2], [])] = some (x_ltoCalls, r_ltoCalls) := by kernel_rfl
def us_ltoCalls := And.intro @u_ltoCalls (And.intro @u_ltoCalls_1 (And.intro @u_ltoCalls_2 (And.intro @u_ltoCalls_3 @u_ltoCalls_4)))
def t_leqIntS_1 : X := (.cond (.t 10) (.seq (.reg [4] (.c (.q 4 [] (.mv (.c (.bool false)))) .nil)) .ret) .skip)
theorem u_leqIntS_1 (P : Program) (k : KT) (e : Env) (w : World) : vcK P t_leqIntS_1 k e w = vcK P (.cond (.t 10) (.seq (.reg [4] (.c (.q 4 [] (.mv (.c (.bool false)))) .nil)) .ret) .skip) k e w := rfl
def t_leqIntS_2 : X := (.cond (.t 14) .skip (.exit 0))
theorem u_leqIntS_2 (P : Program) (k : KT) (e : Env) (w : World) : vcK P t_leqIntS_2 k e w = vcK P (.cond (.t 14) .skip (.exit 0)) k e w := rfl
def t_leqIntS_3 : X := (.cond (.t 25) (.seq (.reg [4] (.c (.q 4 [] (.mv (.c (.bool false)))) .nil)) .ret) .skip)
theorem u_leqIntS_3 (P : Program) (k : KT) (e : Env) (w : World) : vcK P t_leqIntS_3 k e w = vcK P (.cond (.t 25) (.seq (.reg [4] (.c (.q 4 [] (.mv (.c (.bool false)))) .nil)) .ret) .skip) k e w := rfl
def t_leqIntS_4 : X := (.reg [0, 1, 5] (.c (.q 15 [] (.mv (.t 5))) (.c (.q 16 [] (.bin .add (.t 15) (.c (.int .i64 1)))) (.c (.q 5 [] (.mv (.t 16))) .nil))))
theorem u_leqIntS_4 (P : Program) (k : KT) (e : Env) (w : World) : vcK P t_leqIntS_4 k e w = vcK P (.reg [0, 1, 5] (.c (.q 15 [] (.mv (.t 5))) (.c (.q 16 [] (.bin .add (.t 15) (.c (.int .i64 1)))) (.c (.q 5 [] (.mv (.t 16))) .nil)))) k e w := rfl
def t_leqIntS_5 : X := (.seq (.blk 1 (.seq (.drw [0, 1, 5, 25] (.c (.q 17 [] (.mv (.t 0))) (.c (.q 18 [] (.mv (.t 5))) (.c (.q 19 [] (.ia 1 (.t 17) (.t 18))) (.c (.q 20 [] (.ld (.t 19))) (.c (.q 21 [] (.mv (.t 1))) (.c (.q 22 [] (.mv (.t 5))) (.c (.q 23 [] (.ia 1 (.t 21) (.t 22))) (.c (.q 24 [] (.ld (.t 23))) (.c (.q 25 [] (.bin .neq (.t 20) (.t 24))) .nil)))))))))) t_leqIntS_3)) t_leqIntS_4)
theorem u_leqIntS_5 (P : Program) (k : KT) (e : Env) (w : World) : vcK P t_leqIntS_5 k e w = vcK P (.seq (.blk 1 (.seq (.drw [0, 1, 5, 25] (.c (.q 17 [] (.mv (.t 0))) (.c (.q 18 [] (.mv (.t 5))) (.c (.q 19 [] (.ia 1 (.t 17) (.t 18))) (.c (.q 20 [] (.ld (.t 19))) (.c (.q 21 [] (.mv (.t 1))) (.c (.q 22 [] (.mv (.t 5))) (.c (.q 23 [] (.ia 1 (.t 21) (.t 22))) (.c (.q 24 [] (.ld (.t 23))) (.c (.q 25 [] (.bin .neq (.t 20) (.t 24))) .nil)))))))))) t_leqIntS_3)) t_leqIntS_4) k e w := rfl
def t_leqIntS_6 : X := (.seq (.seq (.reg [0, 1, 5, 14] (.c (.q 11 [] (.mv (.t 5))) (.c (.q 12 [] (.mv (.t 0))) (.c (.q 13 [] (.lens (.t 12))) (.c (.q 14 [] (.bin .lss (.t 11) (.t 13))) .nil))))) t_leqIntS_2) t_leqIntS_5)
theorem u_leqIntS_6 (P : Program) (k : KT) (e : Env) (w : World) : vcK P t_leqIntS_6 k e w = vcK P (.seq (.seq (.reg [0, 1, 5, 14] (.c (.q 11 [] (.mv (.t 5))) (.c (.q 12 [] (.mv (.t 0))) (.c (.q 13 [] (.lens (.t 12))) (.c (.q 14 [] (.bin .lss (.t 11) (.t 13))) .nil))))) t_leqIntS_2) t_leqIntS_5) k e w := rfl
def t_leqIntS_7 : X := (.blk 0 (.loop [5] [0, 1] t_leqIntS_6))
theorem u_leqIntS_7 (P : Program) (k : KT) (e : Env) (w : World) : vcK P t_leqIntS_7 k e w = vcK P (.blk 0 (.loop [5] [0, 1] t_leqIntS_6)) k e w := rfl
def t_leqIntS_8 : X := (.seq (.reg [4] (.c (.q 4 [] (.mv (.c (.bool true)))) .nil)) .ret)
theorem u_leqIntS_8 (P : Program) (k : KT) (e : Env) (w : World) : vcK P t_leqIntS_8 k e w = vcK P (.seq (.reg [4] (.c (.q 4 [] (.mv (.c (.bool true)))) .nil)) .ret) k e w := rfl
def t_leqIntS_9 : X := (.seq (.seq (.reg [0, 1, 5] (.c (.q 5 [] (.mv (.c (.int .i64 0)))) .nil)) t_leqIntS_7) t_leqIntS_8)
theorem u_leqIntS_9 (P : Program) (k : KT) (e : Env) (w : World) : vcK P t_leqIntS_9 k e w = vcK P (.seq (.seq (.reg [0, 1, 5] (.c (.q 5 [] (.mv (.c (.int .i64 0)))) .nil)) t_leqIntS_7) t_leqIntS_8) k e w := rfl
def t_leqIntS_10 : X := (.seq (.seq (.reg [0, 1, 10] (.c (.q 6 [] (.mv (.t 0))) (.c (.q 7 [] (.lens (.t 6))) (.c (.q 8 [] (.mv (.t 1))) (.c (.q 9 [] (.lens (.t 8))) (.c (.q 10 [] (.bin .neq (.t 7) (.t 9))) .nil)))))) t_leqIntS_1) t_leqIntS_9)
theorem u_leqIntS_10 (P : Program) (k : KT) (e : Env) (w : World) : vcK P t_leqIntS_10 k e w = vcK P (.seq (.seq (.reg [0, 1, 10] (.c (.q 6 [] (.mv (.t 0))) (.c (.q 7 [] (.lens (.t 6))) (.c (.q 8 [] (.mv (.t 1))) (.c (.q 9 [] (.lens (.t 8))) (.c (.q 10 [] (.bin .neq (.t 7) (.t 9))) .nil)))))) t_leqIntS_1) t_leqIntS_9) k e w := rfl
def x_leqIntS : X := (.seq (.reg [0, 1] (.c (.q 4 [] (.mv (.c (.bool false)))) .nil)) t_leqIntS_10)
theorem u_leqIntS (P : Program) (k : KT) (e : Env) (w : World) : vcK P x_leqIntS k e w = vcK P (.seq (.reg [0, 1] (.c (.q 4 [] (.mv (.c (.bool false)))) .nil)) t_leqIntS_10) k e w := rfl
def r_leqIntS : List XO := [(.mv (.t 4))]
theorem c_leqIntS : convF Try.prog [145, 147, 148, 149, 158, 205, 206, 232, 234, 247, 248, 256, 261, 283, 284, 299, 300, 307] Try.f82 [([0, 1], []), ([0, 1, 10], []), ([4], []), ([0, 1, 5], []), ([5], [0, 1]), ([0, 1, 5, 14], []), ([0, 1, 5, 25], []), ([4], []), ([0, 1, 5], []), ([4], [])] = some (x_leqIntS, r_leqIntS) := by kernel_rfl
def us_leqIntS := And.intro @u_leqIntS (And.intro @u_leqIntS_1 (And.intro @u_leqIntS_2 (And.intro @u_leqIntS_3 (And.intro @u_leqIntS_4 (And.intro @u_leqIntS_5 (And.intro @u_leqIntS_6 (And.intro @u_leqIntS_7 (And.intro @u_leqIntS_8 (And.intro @u_leqIntS_9 @u_leqIntS_10)))))))))
def t_lmarkIntS_1 : X := (.cond (.t 9) .skip (.exit 0))
theorem u_lmarkIntS_1 (P : Program) (k : KT) (e : Env) (w : World) : vcK P t_lmarkIntS_1 k e w = vcK P (.cond (.t 9) .skip (.exit 0)) k e w := rfl
def t_lmarkIntS_2 : X := (.reg [0, 1, 5] (.c (.q 16 [] (.mv (.t 1))) (.c (.q 17 [] (.bin .add (.t 16) (.c (.int .i64 1)))) (.c (.q 1 [] (.mv (.t 17))) .nil))))
theorem u_lmarkIntS_2 (P : Program) (k : KT) (e : Env) (w : World) : vcK P t_lmarkIntS_2 k e w = vcK P (.reg [0, 1, 5] (.c (.q 16 [] (.mv (.t 1))) (.c (.q 17 [] (.bin .add (.t 16) (.c (.int .i64 1)))) (.c (.q 1 [] (.mv (.t 17))) .nil)))) k e w := rfl
def t_lmarkIntS_3 : X := (.reg [0, 1, 5] (.c (.q 10 [] (.mv (.t 5))) (.c (.q 11 [] (.bin .add (.t 10) (.c (.int .i64 1)))) (.c (.q 5 [] (.mv (.t 11))) .nil))))
theorem u_lmarkIntS_3 (P : Program) (k : KT) (e : Env) (w : World) : vcK P t_lmarkIntS_3 k e w = vcK P (.reg [0, 1, 5] (.c (.q 10 [] (.mv (.t 5))) (.c (.q 11 [] (.bin .add (.t 10) (.c (.int .i64 1)))) (.c (.q 5 [] (.mv (.t 11))) .nil)))) k e w := rfl
def t_lmarkIntS_4 : X := (.seq (.blk 1 (.seq (.reg [0, 1, 5] (.c (.q 12 [] (.mv (.t 0))) (.c (.q 13 [] (.mv (.t 5))) (.c (.q 14 [] (.mv (.t 1))) (.c (.q 15 [] (.ia 1 (.t 12) (.t 13))) (.c (.e none [] (.st 1 (.t 15) (.t 14))) .nil)))))) t_lmarkIntS_2)) t_lmarkIntS_3)
theorem u_lmarkIntS_4 (P : Program) (k : KT) (e : Env) (w : World) : vcK P t_lmarkIntS_4 k e w = vcK P (.seq (.blk 1 (.seq (.reg [0, 1, 5] (.c (.q 12 [] (.mv (.t 0))) (.c (.q 13 [] (.mv (.t 5))) (.c (.q 14 [] (.mv (.t 1))) (.c (.q 15 [] (.ia 1 (.t 12) (.t 13))) (.c (.e none [] (.st 1 (.t 15) (.t 14))) .nil)))))) t_lmarkIntS_2)) t_lmarkIntS_3) k e w := rfl
def t_lmarkIntS_5 : X := (.seq (.seq (.reg [0, 1, 5, 9] (.c (.q 6 [] (.mv (.t 5))) (.c (.q 7 [] (.mv (.t 0))) (.c (.q 8 [] (.lens (.t 7))) (.c (.q 9 [] (.bin .lss (.t 6) (.t 8))) .nil))))) t_lmarkIntS_1) t_lmarkIntS_4)
theorem u_lmarkIntS_5 (P : Program) (k : KT) (e : Env) (w : World) : vcK P t_lmarkIntS_5 k e w = vcK P (.seq (.seq (.reg [0, 1, 5, 9] (.c (.q 6 [] (.mv (.t 5))) (.c (.q 7 [] (.mv (.t 0))) (.c (.q 8 [] (.lens (.t 7))) (.c (.q 9 [] (.bin .lss (.t 6) (.t 8))) .nil))))) t_lmarkIntS_1) t_lmarkIntS_4) k e w := rfl
def t_lmarkIntS_6 : X := (.blk 0 (.loop [1, 5] [0] t_lmarkIntS_5))
theorem u_lmarkIntS_6 (P : Program) (k : KT) (e : Env) (w : World) : vcK P t_lmarkIntS_6 k e w = vcK P (.blk 0 (.loop [1, 5] [0] t_lmarkIntS_5)) k e w := rfl
def t_lmarkIntS_7 : X := (.seq (.reg [4] (.c (.q 18 [] (.mv (.t 1))) (.c (.q 4 [] (.mv (.t 18))) .nil))) .ret)
theorem u_lmarkIntS_7 (P : Program) (k : KT) (e : Env) (w : World) : vcK P t_lmarkIntS_7 k e w = vcK P (.seq (.reg [4] (.c (.q 18 [] (.mv (.t 1))) (.c (.q 4 [] (.mv (.t 18))) .nil))) .ret) k e w := rfl
def t_lmarkIntS_8 : X := (.seq (.seq (.reg [0, 1, 5] (.c (.q 5 [] (.mv (.c (.int .i64 0)))) .nil)) t_lmarkIntS_6) t_lmarkIntS_7)
theorem u_lmarkIntS_8 (P : Program) (k : KT) (e : Env) (w : World) : vcK P t_lmarkIntS_8 k e w = vcK P (.seq (.seq (.reg [0, 1, 5] (.c (.q 5 [] (.mv (.c (.int .i64 0)))) .nil)) t_lmarkIntS_6) t_lmarkIntS_7) k e w := rfl
def x_lmarkIntS : X := (.seq (.reg [0, 1] (.c (.q 4 [] (.mv (.c (.int .i64 0)))) .nil)) t_lmarkIntS_8)
theorem u_lmarkIntS (P : Program) (k : KT) (e : Env) (w : World) : vcK P x_lmarkIntS k e w = vcK P (.seq (.reg [0, 1] (.c (.q 4 [] (.mv (.c (.int .i64 0)))) .nil)) t_lmarkIntS_8) k e w := rfl
def r_lmarkIntS : List XO := [(.mv (.t 4))]
theorem c_lmarkIntS : convF Try.prog [145, 147, 148, 149, 158, 205, 206, 232, 234, 247, 248, 256, 261, 283, 284, 299, 300, 307] Try.f85 [([0, 1], []), ([0, 1, 5], []), ([1, 5], [0]), ([0, 1, 5, 9], []), ([0, 1, 5], []), ([0, 1, 5], []), ([0, 1, 5], []), ([4], [])] = some (x_lmarkIntS, r_lmarkIntS) := by kernel_rfl
def us_lmarkIntS := And.intro @u_lmarkIntS (And.intro @u_lmarkIntS_1 (And.intro @u_lmarkIntS_2 (And.intro @u_lmarkIntS_3 (And.intro @u_lmarkIntS_4 (And.intro @u_lmarkIntS_5 (And.intro @u_lmarkIntS_6 (And.intro @u_lmarkIntS_7 @u_lmarkIntS_8)))))))
def t_lheldIntS_1 : X := (.cond (.t 9) .skip (.exit 0))
theorem u_lheldIntS_1 (P : Program) (k : KT) (e : Env) (w : World) : vcK P t_lheldIntS_1 k e w = vcK P (.cond (.t 9) .skip (.exit 0)) k e w := rfl
def t_lheldIntS_2 : X := (.cond (.t 17) (.seq (.reg [4] (.c (.q 4 [] (.mv (.c (.int .i64 (-1))))) .nil)) .ret) .skip)
theorem u_lheldIntS_2 (P : Program) (k : KT) (e : Env) (w : World) : vcK P t_lheldIntS_2 k e w = vcK P (.cond (.t 17) (.seq (.reg [4] (.c (.q 4 [] (.mv (.c (.int .i64 (-1))))) .nil)) .ret) .skip) k e w := rfl
def t_lheldIntS_3 : X := (.reg [0, 1, 5] (.c (.q 18 [] (.mv (.t 1))) (.c (.q 19 [] (.bin .add (.t 18) (.c (.int .i64 1)))) (.c (.q 1 [] (.mv (.t 19))) .nil))))
theorem u_lheldIntS_3 (P : Program) (k : KT) (e : Env) (w : World) : vcK P t_lheldIntS_3 k e w = vcK P (.reg [0, 1, 5] (.c (.q 18 [] (.mv (.t 1))) (.c (.q 19 [] (.bin .add (.t 18) (.c (.int .i64 1)))) (.c (.q 1 [] (.mv (.t 19))) .nil)))) k e w := rfl
def t_lheldIntS_4 : X := (.reg [0, 1, 5] (.c (.q 10 [] (.mv (.t 5))) (.c (.q 11 [] (.bin .add (.t 10) (.c (.int .i64 1)))) (.c (.q 5 [] (.mv (.t 11))) .nil))))
theorem u_lheldIntS_4 (P : Program) (k : KT) (e : Env) (w : World) : vcK P t_lheldIntS_4 k e w = vcK P (.reg [0, 1, 5] (.c (.q 10 [] (.mv (.t 5))) (.c (.q 11 [] (.bin .add (.t 10) (.c (.int .i64 1)))) (.c (.q 5 [] (.mv (.t 11))) .nil)))) k e w := rfl
def t_lheldIntS_5 : X := (.seq (.blk 1 (.seq (.seq (.reg [0, 1, 5, 17] (.c (.q 12 [] (.mv (.t 0))) (.c (.q 13 [] (.mv (.t 5))) (.c (.q 14 [] (.ia 1 (.t 12) (.t 13))) (.c (.q 15 [] (.ld (.t 14))) (.c (.q 16 [] (.mv (.t 1))) (.c (.q 17 [] (.bin .neq (.t 15) (.t 16))) .nil))))))) t_lheldIntS_2) t_lheldIntS_3)) t_lheldIntS_4)
theorem u_lheldIntS_5 (P : Program) (k : KT) (e : Env) (w : World) : vcK P t_lheldIntS_5 k e w = vcK P (.seq (.blk 1 (.seq (.seq (.reg [0, 1, 5, 17] (.c (.q 12 [] (.mv (.t 0))) (.c (.q 13 [] (.mv (.t 5))) (.c (.q 14 [] (.ia 1 (.t 12) (.t 13))) (.c (.q 15 [] (.ld (.t 14))) (.c (.q 16 [] (.mv (.t 1))) (.c (.q 17 [] (.bin .neq (.t 15) (.t 16))) .nil))))))) t_lheldIntS_2) t_lheldIntS_3)) t_lheldIntS_4) k e w := rfl
def t_lheldIntS_6 : X := (.seq (.seq (.reg [0, 1, 5, 9] (.c (.q 6 [] (.mv (.t 5))) (.c (.q 7 [] (.mv (.t 0))) (.c (.q 8 [] (.lens (.t 7))) (.c (.q 9 [] (.bin .lss (.t 6) (.t 8))) .nil))))) t_lheldIntS_1) t_lheldIntS_5)
theorem u_lheldIntS_6 (P : Program) (k : KT) (e : Env) (w : World) : vcK P t_lheldIntS_6 k e w = vcK P (.seq (.seq (.reg [0, 1, 5, 9] (.c (.q 6 [] (.mv (.t 5))) (.c (.q 7 [] (.mv (.t 0))) (.c (.q 8 [] (.lens (.t 7))) (.c (.q 9 [] (.bin .lss (.t 6) (.t 8))) .nil))))) t_lheldIntS_1) t_lheldIntS_5) k e w := rfl
def t_lheldIntS_7 : X := (.blk 0 (.loop [1, 5] [0] t_lheldIntS_6))
theorem u_lheldIntS_7 (P : Program) (k : KT) (e : Env) (w : World) : vcK P t_lheldIntS_7 k e w = vcK P (.blk 0 (.loop [1, 5] [0] t_lheldIntS_6)) k e w := rfl
def t_lheldIntS_8 : X := (.seq (.reg [4] (.c (.q 20 [] (.mv (.t 1))) (.c (.q 4 [] (.mv (.t 20))) .nil))) .ret)
theorem u_lheldIntS_8 (P : Program) (k : KT) (e : Env) (w : World) : vcK P t_lheldIntS_8 k e w = vcK P (.seq (.reg [4] (.c (.q 20 [] (.mv (.t 1))) (.c (.q 4 [] (.mv (.t 20))) .nil))) .ret) k e w := rfl
def t_lheldIntS_9 : X := (.seq (.seq (.reg [0, 1, 5] (.c (.q 5 [] (.mv (.c (.int .i64 0)))) .nil)) t_lheldIntS_7) t_lheldIntS_8)
theorem u_lheldIntS_9 (P : Program) (k : KT) (e : Env) (w : World) : vcK P t_lheldIntS_9 k e w = vcK P (.seq (.seq (.reg [0, 1, 5] (.c (.q 5 [] (.mv (.c (.int .i64 0)))) .nil)) t_lheldIntS_7) t_lheldIntS_8) k e w := rfl
def x_lheldIntS : X := (.seq (.reg [0, 1] (.c (.q 4 [] (.mv (.c (.int .i64 0)))) .nil)) t_lheldIntS_9)
theorem u_lheldIntS (P : Program) (k : KT) (e : Env) (w : World) : vcK P x_lheldIntS k e w = vcK P (.seq (.reg [0, 1] (.c (.q 4 [] (.mv (.c (.int .i64 0)))) .nil)) t_lheldIntS_9) k e w := rfl
def r_lheldIntS : List XO := [(.mv (.t 4))]
theorem c_lheldIntS : convF Try.prog [145, 147, 148, 149, 158, 205, 206, 232, 234, 247, 248, 256, 261, 283, 284, 299, 300, 307] Try.f86 [([0, 1], []), ([0, 1, 5], []), ([1, 5], [0]), ([0, 1, 5, 9], []), ([0, 1, 5, 17], []), ([4], []), ([0, 1, 5], []), ([0, 1, 5], []), ([4], [])] = some (x_lheldIntS, r_lheldIntS) := by kernel_rfl
def us_lheldIntS := And.intro @u_lheldIntS (And.intro @u_lheldIntS_1 (And.intro @u_lheldIntS_2 (And.intro @u_lheldIntS_3 (And.intro @u_lheldIntS_4 (And.intro @u_lheldIntS_5 (And.intro @u_lheldIntS_6 (And.intro @u_lheldIntS_7 (And.intro @u_lheldIntS_8 @u_lheldIntS_9))))))))
def t_lmarkMethod_1 : X := (.seq (.reg [4] (.c (.q 9 [] (.mv (.t 1))) (.c (.q 4 [] (.mv (.t 9))) .nil))) .ret)
theorem u_lmarkMethod_1 (P : Program) (k : KT) (e : Env) (w : World) : vcK P t_lmarkMethod_1 k e w = vcK P (.seq (.reg [4] (.c (.q 9 [] (.mv (.t 1))) (.c (.q 4 [] (.mv (.t 9))) .nil))) .ret) k e w := rfl
def t_lmarkMethod_2 : X := (.seq (.reg [1] (.c (.q 5 [] (.fa 2 (.t 2))) (.c (.q 6 [] (.ld (.t 5))) (.c (.q 7 [] (.mv (.t 1))) (.c (.e (some 8) [] (.call false 39 [(.t 6), (.t 7)])) (.c (.q 1 [] (.mv (.t 8))) .nil)))))) t_lmarkMethod_1)
theorem u_lmarkMethod_2 (P : Program) (k : KT) (e : Env) (w : World) : vcK P t_lmarkMethod_2 k e w = vcK P (.seq (.reg [1] (.c (.q 5 [] (.fa 2 (.t 2))) (.c (.q 6 [] (.ld (.t 5))) (.c (.q 7 [] (.mv (.t 1))) (.c (.e (some 8) [] (.call false 39 [(.t 6), (.t 7)])) (.c (.q 1 [] (.mv (.t 8))) .nil)))))) t_lmarkMethod_1) k e w := rfl
def x_lmarkMethod : X := (.seq (.reg [1, 2] (.c (.e (some 2) [] (.box 58 (.t 0))) (.c (.q 4 [] (.mv (.c (.int .i64 0)))) .nil))) t_lmarkMethod_2)
theorem u_lmarkMethod (P : Program) (k : KT) (e : Env) (w : World) : vcK P x_lmarkMethod k e w = vcK P (.seq (.reg [1, 2] (.c (.e (some 2) [] (.box 58 (.t 0))) (.c (.q 4 [] (.mv (.c (.int .i64 0)))) .nil))) t_lmarkMethod_2) k e w := rfl
def r_lmarkMethod : List XO := [(.mv (.t 4))]
theorem c_lmarkMethod : convF Try.prog [145, 147, 148, 149, 158, 205, 206, 232, 234, 247, 248, 256, 261, 283, 284, 299, 300, 307] Try.f46 [([1, 2], []), ([1], []), ([4], [])] = some (x_lmarkMethod, r_lmarkMethod) := by kernel_rfl
def us_lmarkMethod := And.intro @u_lmarkMethod (And.intro @u_lmarkMethod_1 @u_lmarkMethod_2)

/-- The cells of calls: bob, single. -/
def fQ (b s : List UInt8) : List Value := [S b, S s]
abbrev kV (b s : List UInt8) : Value := .agg ⟨fQ b s⟩
theorem fQg (b s : List UInt8) : (∀ v, (fQ b s).getD 0 v = S b) ∧ (∀ v, (fQ b s).getD 1 v = S s) ∧ (fQ b s).length = 2 := ⟨fun _ => rfl, fun _ => rfl, rfl⟩
theorem fQ_one (b s : List UInt8) : ∀ u ∈ fQ b s, u.oneCell' = true := fun u h => by simp only [fQ, List.mem_cons, List.not_mem_nil, or_false] at h; rcases h with rfl | rfl <;> rfl
def IsCall (l : List UInt8) : Prop := l = [112] ∨ l = [98] ∨ l = [115]
instance (l : List UInt8) : Decidable (IsCall l) := by unfold IsCall; infer_instance
theorem iisCall_okc (l : List UInt8) (w : World) : Fn 294 [S l] w (fun r _ => r = .bool (decide (IsCall l))) := by
  (refine callsV_of mix Try.func294 c_iisCall ?_; simp only [↓vsd, vsn, gW, qd, qv, ev, pick, argE, List.map_cons, List.map_nil, Option.map_some, Option.map_none, zipE, List.cons_append, List.nil_append, ne_eq, eq_self, forall_const, implies_true, if_true, if_false, reduceIte, List.cons.injEq, reduceCtorEq, Nat.reduceEqDiff, List.length_nil, List.length_cons, Nat.reduceAdd, Nat.reduceLT, List.set_cons_zero, List.set_cons_succ, ↓us_iisCall, r_iisCall])
  refine ⟨Ext.refl _, ?_⟩
  simp only [IsCall, ← Bool.decide_or, or_assoc]
theorem sl8Call_okc (l : List UInt8) (w : World) : Fn 295 [S l] w (fun r _ => r = .bool (decide (IsCall l))) := by
  (refine callsV_of mix Try.func295 c_sl8Call ?_; simp only [↓vsd, vsn, gW, qd, qv, ev, pick, argE, List.map_cons, List.map_nil, Option.map_some, Option.map_none, zipE, List.cons_append, List.nil_append, ne_eq, eq_self, forall_const, implies_true, if_true, if_false, reduceIte, List.cons.injEq, reduceCtorEq, Nat.reduceEqDiff, List.length_nil, List.length_cons, Nat.reduceAdd, Nat.reduceLT, List.set_cons_zero, List.set_cons_succ, ↓us_sl8Call, r_sl8Call])
  refine ⟨Ext.refl _, ?_⟩
  simp only [IsCall, ← Bool.decide_or, or_assoc]
/-- A method with calls. -/
def IsMC (nm : List UInt8) (st : Int) (cs : List (List UInt8)) (b s : List UInt8) : Prop := IsMethod nm st cs ∧ IsChange st b ∧ IsChange st s
instance (nm : List UInt8) (st : Int) (cs : List (List UInt8)) (b s : List UInt8) : Decidable (IsMC nm st cs b s) := by unfold IsMC; infer_instance
theorem iGoodCalls_ok (nm : List UInt8) (st : Int) (v : Value) (cs : List (List UInt8)) (b s : List UInt8) (hnm : nm.length ≤ 1048576) (hs : ∀ c ∈ cs, c.length ≤ 1048576) (hl : cs.length ≤ 1000000000) (hb : b.length ≤ 1048576 ∧ s.length ≤ 1048576) (w : World) (h : Sq fS 1 w v cs) : Fn 274 [mV nm st v, kV b s] w (fun r _ => r = .bool (decide (IsMC nm st cs b s))) := by
  (refine callsV_of mix Try.func274 c_iGoodCalls ?_; simp only [↓vsd, vsn, gW, qd, qv, ev, pick, argE, List.map_cons, List.map_nil, Option.map_some, Option.map_none, zipE, List.cons_append, List.nil_append, ne_eq, eq_self, forall_const, implies_true, if_true, if_false, reduceIte, List.cons.injEq, reduceCtorEq, Nat.reduceEqDiff, List.length_nil, List.length_cons, Nat.reduceAdd, Nat.reduceLT, List.set_cons_zero, List.set_cons_succ, ↓us_iGoodCalls, r_iGoodCalls])
  refine m_al ?_
  rintro b1 w1 hb1 hblk1 hx1 hs1
  have h1 : Blk w1 b1 (fM nm st v) 58 := hblk1
  simp only [↓vsd, vsn, gW, qd, qv, ev, pick, argE, List.map_cons, List.map_nil, Option.map_some, Option.map_none, zipE, List.cons_append, List.nil_append, ne_eq, eq_self, forall_const, implies_true, if_true, if_false, reduceIte, List.cons.injEq, reduceCtorEq, Nat.reduceEqDiff, List.length_nil, List.length_cons, Nat.reduceAdd, Nat.reduceLT, List.set_cons_zero, List.set_cons_succ, ↓us_iGoodCalls, r_iGoodCalls, h1.facts, fMg]
  refine m_al ?_
  rintro b2 w2 hb2 hblk2 hx2 hs2
  have h2 : Blk w2 b2 (fQ b s) 47 := hblk2
  have h12 := h1.ext hx2
  have hx12 := hx1.trans hx2
  simp only [↓vsd, vsn, gW, qd, qv, ev, pick, argE, List.map_cons, List.map_nil, Option.map_some, Option.map_none, zipE, List.cons_append, List.nil_append, ne_eq, eq_self, forall_const, implies_true, if_true, if_false, reduceIte, List.cons.injEq, reduceCtorEq, Nat.reduceEqDiff, List.length_nil, List.length_cons, Nat.reduceAdd, Nat.reduceLT, List.set_cons_zero, List.set_cons_succ, ↓us_iGoodCalls, r_iGoodCalls, h12.facts, h2.facts, fMg, fQg]
  refine m_call (iGoodMethod_ok nm st v cs hnm hs hl _ (h.ext hx12)) ?_
  rintro _ w3 hx3 rfl
  have h13 := h12.ext hx3
  have h23 := h2.ext hx3
  simp only [↓vsd, vsn, gW, qd, qv, ev, pick, argE, List.map_cons, List.map_nil, Option.map_some, Option.map_none, zipE, List.cons_append, List.nil_append, ne_eq, eq_self, forall_const, implies_true, if_true, if_false, reduceIte, List.cons.injEq, reduceCtorEq, Nat.reduceEqDiff, List.length_nil, List.length_cons, Nat.reduceAdd, Nat.reduceLT, List.set_cons_zero, List.set_cons_succ, ↓us_iGoodCalls, r_iGoodCalls, h13.facts, h23.facts, fMg, fQg]
  refine ⟨fun hm => m_call (iGoodChange_ok st b hb.1 _) ?_, fun hm => ?_⟩
  · rintro _ w4 hx4 rfl
    have h14 := h13.ext hx4
    have h24 := h23.ext hx4
    simp only [↓vsd, vsn, gW, qd, qv, ev, pick, argE, List.map_cons, List.map_nil, Option.map_some, Option.map_none, zipE, List.cons_append, List.nil_append, ne_eq, eq_self, forall_const, implies_true, if_true, if_false, reduceIte, List.cons.injEq, reduceCtorEq, Nat.reduceEqDiff, List.length_nil, List.length_cons, Nat.reduceAdd, Nat.reduceLT, List.set_cons_zero, List.set_cons_succ, ↓us_iGoodCalls, r_iGoodCalls, h14.facts, h24.facts, fMg, fQg]
    refine ⟨fun hcb => m_call (iGoodChange_ok st s hb.2 _) ?_, fun hcb => ⟨(hx12.trans hx3).trans hx4, by rw [decide_eq_false fun hh : IsMC nm st cs b s => hcb ⟨hh.1, hh.2.1⟩]⟩⟩
    rintro _ w5 hx5 rfl
    simp only [↓vsd, vsn, gW, qd, qv, ev, pick, argE, List.map_cons, List.map_nil, Option.map_some, Option.map_none, zipE, List.cons_append, List.nil_append, ne_eq, eq_self, forall_const, implies_true, if_true, if_false, reduceIte, List.cons.injEq, reduceCtorEq, Nat.reduceEqDiff, List.length_nil, List.length_cons, Nat.reduceAdd, Nat.reduceLT, List.set_cons_zero, List.set_cons_succ, ↓us_iGoodCalls, r_iGoodCalls]
    exact ⟨((hx12.trans hx3).trans hx4).trans hx5, by simp [IsMC, hm, hcb]⟩
  · exact ⟨hx12.trans hx3, by simp [IsMC, hm]⟩
theorem sl8Good_ok (nm : List UInt8) (st : Int) (v : Value) (cs : List (List UInt8)) (b s : List UInt8) (hnm : nm.length ≤ 1048576) (hs : ∀ c ∈ cs, c.length ≤ 1048576) (hl : cs.length ≤ 1000000000) (hb : b.length ≤ 1048576 ∧ s.length ≤ 1048576) (w : World) (h : Sq fS 1 w v cs) : Fn 272 [mV nm st v, kV b s] w (fun r _ => r = .bool (decide (IsMC nm st cs b s))) := by
  (refine callsV_of mix Try.func272 c_sl8Good ?_; simp only [↓vsd, vsn, gW, qd, qv, ev, pick, argE, List.map_cons, List.map_nil, Option.map_some, Option.map_none, zipE, List.cons_append, List.nil_append, ne_eq, eq_self, forall_const, implies_true, if_true, if_false, reduceIte, List.cons.injEq, reduceCtorEq, Nat.reduceEqDiff, List.length_nil, List.length_cons, Nat.reduceAdd, Nat.reduceLT, List.set_cons_zero, List.set_cons_succ, ↓us_sl8Good, r_sl8Good])
  refine m_al ?_
  rintro b1 w1 hb1 hblk1 hx1 hs1
  have h1 : Blk w1 b1 (fM nm st v) 58 := hblk1
  simp only [↓vsd, vsn, gW, qd, qv, ev, pick, argE, List.map_cons, List.map_nil, Option.map_some, Option.map_none, zipE, List.cons_append, List.nil_append, ne_eq, eq_self, forall_const, implies_true, if_true, if_false, reduceIte, List.cons.injEq, reduceCtorEq, Nat.reduceEqDiff, List.length_nil, List.length_cons, Nat.reduceAdd, Nat.reduceLT, List.set_cons_zero, List.set_cons_succ, ↓us_sl8Good, r_sl8Good, h1.facts, fMg]
  refine m_al ?_
  rintro b2 w2 hb2 hblk2 hx2 hs2
  have h2 : Blk w2 b2 (fQ b s) 47 := hblk2
  have h12 := h1.ext hx2
  have hx12 := hx1.trans hx2
  simp only [↓vsd, vsn, gW, qd, qv, ev, pick, argE, List.map_cons, List.map_nil, Option.map_some, Option.map_none, zipE, List.cons_append, List.nil_append, ne_eq, eq_self, forall_const, implies_true, if_true, if_false, reduceIte, List.cons.injEq, reduceCtorEq, Nat.reduceEqDiff, List.length_nil, List.length_cons, Nat.reduceAdd, Nat.reduceLT, List.set_cons_zero, List.set_cons_succ, ↓us_sl8Good, r_sl8Good, h12.facts, h2.facts, fMg, fQg]
  refine m_call (sl4Good_ok nm st v cs hnm hs hl _ (h.ext hx12)) ?_
  rintro _ w3 hx3 rfl
  have h13 := h12.ext hx3
  have h23 := h2.ext hx3
  simp only [↓vsd, vsn, gW, qd, qv, ev, pick, argE, List.map_cons, List.map_nil, Option.map_some, Option.map_none, zipE, List.cons_append, List.nil_append, ne_eq, eq_self, forall_const, implies_true, if_true, if_false, reduceIte, List.cons.injEq, reduceCtorEq, Nat.reduceEqDiff, List.length_nil, List.length_cons, Nat.reduceAdd, Nat.reduceLT, List.set_cons_zero, List.set_cons_succ, ↓us_sl8Good, r_sl8Good, h13.facts, h23.facts, fMg, fQg]
  refine ⟨fun hm => m_call (sl2Change_ok st b hb.1 _) ?_, fun hm => ?_⟩
  · rintro _ w4 hx4 rfl
    have h14 := h13.ext hx4
    have h24 := h23.ext hx4
    simp only [↓vsd, vsn, gW, qd, qv, ev, pick, argE, List.map_cons, List.map_nil, Option.map_some, Option.map_none, zipE, List.cons_append, List.nil_append, ne_eq, eq_self, forall_const, implies_true, if_true, if_false, reduceIte, List.cons.injEq, reduceCtorEq, Nat.reduceEqDiff, List.length_nil, List.length_cons, Nat.reduceAdd, Nat.reduceLT, List.set_cons_zero, List.set_cons_succ, ↓us_sl8Good, r_sl8Good, h14.facts, h24.facts, fMg, fQg]
    refine ⟨fun hcb => m_call (sl2Change_ok st s hb.2 _) ?_, fun hcb => ⟨(hx12.trans hx3).trans hx4, by rw [decide_eq_false fun hh : IsMC nm st cs b s => hcb ⟨hh.1, hh.2.1⟩]⟩⟩
    rintro _ w5 hx5 rfl
    simp only [↓vsd, vsn, gW, qd, qv, ev, pick, argE, List.map_cons, List.map_nil, Option.map_some, Option.map_none, zipE, List.cons_append, List.nil_append, ne_eq, eq_self, forall_const, implies_true, if_true, if_false, reduceIte, List.cons.injEq, reduceCtorEq, Nat.reduceEqDiff, List.length_nil, List.length_cons, Nat.reduceAdd, Nat.reduceLT, List.set_cons_zero, List.set_cons_succ, ↓us_sl8Good, r_sl8Good]
    exact ⟨((hx12.trans hx3).trans hx4).trans hx5, by simp [IsMC, hm, hcb]⟩
  · exact ⟨hx12.trans hx3, by simp [IsMC, hm]⟩
theorem sl8Asked_ok (nm : List UInt8) (st : Int) (v : Value) (cs : List (List UInt8)) (b s call : List UInt8) (hnm : nm.length ≤ 1048576) (hs : ∀ c ∈ cs, c.length ≤ 1048576) (hl : cs.length ≤ 1000000000) (hb : b.length ≤ 1048576 ∧ s.length ≤ 1048576) (w : World) (h : Sq fS 1 w v cs) : Fn 242 [mV nm st v, kV b s, S call] w (fun r _ => r = .bool (decide (IsMC nm st cs b s ∧ IsCall call))) := by
  (refine callsV_of mix Try.func242 c_sl8Asked ?_; simp only [↓vsd, vsn, gW, qd, qv, ev, pick, argE, List.map_cons, List.map_nil, Option.map_some, Option.map_none, zipE, List.cons_append, List.nil_append, ne_eq, eq_self, forall_const, implies_true, if_true, if_false, reduceIte, List.cons.injEq, reduceCtorEq, Nat.reduceEqDiff, List.length_nil, List.length_cons, Nat.reduceAdd, Nat.reduceLT, List.set_cons_zero, List.set_cons_succ, ↓us_sl8Asked, r_sl8Asked])
  refine m_al ?_
  rintro b1 w1 hb1 hblk1 hx1 hs1
  have h1 : Blk w1 b1 (fM nm st v) 58 := hblk1
  simp only [↓vsd, vsn, gW, qd, qv, ev, pick, argE, List.map_cons, List.map_nil, Option.map_some, Option.map_none, zipE, List.cons_append, List.nil_append, ne_eq, eq_self, forall_const, implies_true, if_true, if_false, reduceIte, List.cons.injEq, reduceCtorEq, Nat.reduceEqDiff, List.length_nil, List.length_cons, Nat.reduceAdd, Nat.reduceLT, List.set_cons_zero, List.set_cons_succ, ↓us_sl8Asked, r_sl8Asked, h1.facts, fMg]
  refine m_al ?_
  rintro b2 w2 hb2 hblk2 hx2 hs2
  have h2 : Blk w2 b2 (fQ b s) 47 := hblk2
  have h12 := h1.ext hx2
  have hx12 := hx1.trans hx2
  simp only [↓vsd, vsn, gW, qd, qv, ev, pick, argE, List.map_cons, List.map_nil, Option.map_some, Option.map_none, zipE, List.cons_append, List.nil_append, ne_eq, eq_self, forall_const, implies_true, if_true, if_false, reduceIte, List.cons.injEq, reduceCtorEq, Nat.reduceEqDiff, List.length_nil, List.length_cons, Nat.reduceAdd, Nat.reduceLT, List.set_cons_zero, List.set_cons_succ, ↓us_sl8Asked, r_sl8Asked, h12.facts, h2.facts, fMg, fQg]
  refine m_call (sl8Good_ok nm st v cs b s hnm hs hl hb _ (h.ext hx12)) ?_
  rintro _ w3 hx3 rfl
  simp only [↓vsd, vsn, gW, qd, qv, ev, pick, argE, List.map_cons, List.map_nil, Option.map_some, Option.map_none, zipE, List.cons_append, List.nil_append, ne_eq, eq_self, forall_const, implies_true, if_true, if_false, reduceIte, List.cons.injEq, reduceCtorEq, Nat.reduceEqDiff, List.length_nil, List.length_cons, Nat.reduceAdd, Nat.reduceLT, List.set_cons_zero, List.set_cons_succ, ↓us_sl8Asked, r_sl8Asked]
  refine ⟨fun hm => m_call (sl8Call_okc call _) ?_, fun hm => ⟨hx12.trans hx3, by simp [hm]⟩⟩
  rintro _ w4 hx4 rfl
  simp only [↓vsd, vsn, gW, qd, qv, ev, pick, argE, List.map_cons, List.map_nil, Option.map_some, Option.map_none, zipE, List.cons_append, List.nil_append, ne_eq, eq_self, forall_const, implies_true, if_true, if_false, reduceIte, List.cons.injEq, reduceCtorEq, Nat.reduceEqDiff, List.length_nil, List.length_cons, Nat.reduceAdd, Nat.reduceLT, List.set_cons_zero, List.set_cons_succ, ↓us_sl8Asked, r_sl8Asked]
  exact ⟨(hx12.trans hx3).trans hx4, by simp [hm]⟩
/-- The last change of a lead with a call. -/
def chgOf (cs : List (List UInt8)) (b s call : List UInt8) : List UInt8 := if call = [98] then b else if call = [115] then s else cs.getD (cs.length - 1) []
def calledCs (cs : List (List UInt8)) (b s call : List UInt8) : List (List UInt8) := cs.take (cs.length - 1) ++ [chgOf cs b s call]
/-- The lead head of a lead with a call. -/
def headC (st : Nat) (cs : List (List UInt8)) (b s call : List UInt8) : List UInt8 := underL (roundsL st) (calledCs cs b s call)
theorem headC_eq (st : Nat) (cs : List (List UInt8)) (b s call : List UInt8) : headC st cs b s call = applyL (underL (roundsL st) (cs.take (cs.length - 1))) (chgOf cs b s call) := by
  rw [headC, calledCs, underL, underL, List.foldl_append]; rfl
theorem calledCs_len (cs : List (List UInt8)) (b s call : List UInt8) (h : 1 ≤ cs.length) : (calledCs cs b s call).length = cs.length := by
  simp [calledCs]; omega
theorem IsMC.chg {nm : List UInt8} {st : Int} {cs : List (List UInt8)} {b s : List UInt8} (h : IsMC nm st cs b s) (call : List UInt8) : IsChange st (chgOf cs b s call) := by
  unfold chgOf
  split
  · exact h.2.1
  · split
    · exact h.2.2
    · exact h.1.2.2.2 _ (getD_mem [] (by have := h.1.2.2.1; omega))
theorem IsMC.called {nm : List UInt8} {st : Int} {cs : List (List UInt8)} {b s : List UInt8} (h : IsMC nm st cs b s) (call : List UInt8) : IsMethod nm st (calledCs cs b s call) := by
  refine ⟨h.1.1, h.1.2.1, by rw [calledCs_len _ _ _ _ h.1.2.2.1.1]; exact h.1.2.2.1, fun c hc => ?_⟩
  rcases List.mem_append.1 hc with hc | hc
  · exact h.1.2.2.2 c (List.mem_of_mem_take hc)
  · rw [List.mem_singleton.1 hc]; exact h.chg call
theorem headC_row {nm : List UInt8} {st : Nat} {cs : List (List UInt8)} {b s : List UInt8} (h : IsMC nm st cs b s) (call : List UInt8) : IsRow (headC st cs b s call) ∧ (headC st cs b s call).length = st := by
  have h8 := h.1.2.1
  exact ⟨underL_row _ (roundsL_row st (by omega)), by rw [headC, underL_len, roundsL_len]⟩
theorem IsChange.small {n : Int} {c : List UInt8} (h : IsChange n c) : c.length ≤ 8 := by have := h.len; have := h.1; omega
theorem sl8Change_ok (nm : List UInt8) (st : Int) (v : Value) (cs : List (List UInt8)) (b s call : List UInt8) (hl : 1 ≤ cs.length ∧ cs.length ≤ 40) (w : World) (h : Sq fS 1 w v cs) : Fn 296 [mV nm st v, kV b s, S call] w (fun r _ => r = S (chgOf cs b s call)) := by
  (refine callsV_of mix Try.func296 c_sl8Change ?_; simp only [↓vsd, vsn, gW, qd, qv, ev, pick, argE, List.map_cons, List.map_nil, Option.map_some, Option.map_none, zipE, List.cons_append, List.nil_append, ne_eq, eq_self, forall_const, implies_true, if_true, if_false, reduceIte, List.cons.injEq, reduceCtorEq, Nat.reduceEqDiff, List.length_nil, List.length_cons, Nat.reduceAdd, Nat.reduceLT, List.set_cons_zero, List.set_cons_succ, ↓us_sl8Change, r_sl8Change])
  refine m_al ?_
  rintro b1 w1 hb1 hblk1 hx1 hs1
  have h1 : Blk w1 b1 (fM nm st v) 58 := hblk1
  simp only [↓vsd, vsn, gW, qd, qv, ev, pick, argE, List.map_cons, List.map_nil, Option.map_some, Option.map_none, zipE, List.cons_append, List.nil_append, ne_eq, eq_self, forall_const, implies_true, if_true, if_false, reduceIte, List.cons.injEq, reduceCtorEq, Nat.reduceEqDiff, List.length_nil, List.length_cons, Nat.reduceAdd, Nat.reduceLT, List.set_cons_zero, List.set_cons_succ, ↓us_sl8Change, r_sl8Change, h1.facts, fMg]
  refine m_al ?_
  rintro b2 w2 hb2 hblk2 hx2 hs2
  have h2 : Blk w2 b2 (fQ b s) 47 := hblk2
  have h12 := h1.ext hx2
  have hx12 := hx1.trans hx2
  have hq := h.ext hx12
  have hI : ((cs.length : Nat) : Int) - 1 = ((cs.length - 1 : Nat) : Int) := by omega
  have hlt : cs.length - 1 < cs.length := by omega
  simp only [↓vsd, vsn, gW, qd, qv, ev, pick, argE, List.map_cons, List.map_nil, Option.map_some, Option.map_none, zipE, List.cons_append, List.nil_append, ne_eq, eq_self, forall_const, implies_true, if_true, if_false, reduceIte, List.cons.injEq, reduceCtorEq, Nat.reduceEqDiff, List.length_nil, List.length_cons, Nat.reduceAdd, Nat.reduceLT, List.set_cons_zero, List.set_cons_succ, ↓us_sl8Change, r_sl8Change, h12.facts, h2.facts, fMg, fQg, hq.facts, hI, hq.at1 [] hlt]
  refine ⟨fun h1 => ⟨hx12, by rw [chgOf, if_pos h1]⟩, fun h1 => ⟨fun h2 => ⟨hx12, by rw [chgOf, if_neg h1, if_pos h2]⟩, fun h2 => ⟨inR_i64 (by omega), by omega, hx12, by rw [chgOf, if_neg h1, if_neg h2]⟩⟩⟩
theorem sl8Head_ok (nm : List UInt8) (st : Nat) (v : Value) (cs : List (List UInt8)) (b s call : List UInt8) (hm : IsMC nm st cs b s) (w : World) (h : Sq fS 1 w v cs) : Fn 243 [mV nm st v, kV b s, S call] w (fun r _ => r = S (headC st cs b s call)) := by
  (refine callsV_of mix Try.func243 c_sl8Head ?_; simp only [↓vsd, vsn, gW, qd, qv, ev, pick, argE, List.map_cons, List.map_nil, Option.map_some, Option.map_none, zipE, List.cons_append, List.nil_append, ne_eq, eq_self, forall_const, implies_true, if_true, if_false, reduceIte, List.cons.injEq, reduceCtorEq, Nat.reduceEqDiff, List.length_nil, List.length_cons, Nat.reduceAdd, Nat.reduceLT, List.set_cons_zero, List.set_cons_succ, ↓us_sl8Head, r_sl8Head])
  refine m_al ?_
  rintro b1 w1 hb1 hblk1 hx1 hs1
  have h1 : Blk w1 b1 (fM nm st v) 58 := hblk1
  simp only [↓vsd, vsn, gW, qd, qv, ev, pick, argE, List.map_cons, List.map_nil, Option.map_some, Option.map_none, zipE, List.cons_append, List.nil_append, ne_eq, eq_self, forall_const, implies_true, if_true, if_false, reduceIte, List.cons.injEq, reduceCtorEq, Nat.reduceEqDiff, List.length_nil, List.length_cons, Nat.reduceAdd, Nat.reduceLT, List.set_cons_zero, List.set_cons_succ, ↓us_sl8Head, r_sl8Head, h1.facts, fMg]
  refine m_al ?_
  rintro b2 w2 hb2 hblk2 hx2 hs2
  have h2 : Blk w2 b2 (fQ b s) 47 := hblk2
  have h12 := h1.ext hx2
  have hx12 := hx1.trans hx2
  have hq := h.ext hx12
  have hc := hm.1.2.2.1
  have h8 := hm.1.2.1
  have hI : ((cs.length : Nat) : Int) - 1 = ((cs.length - 1 : Nat) : Int) := by omega
  obtain ⟨hd, hqh⟩ := hq.headS .i64 (cs.length - 1) (by omega)
  simp only [↓vsd, vsn, gW, qd, qv, ev, pick, argE, List.map_cons, List.map_nil, Option.map_some, Option.map_none, zipE, List.cons_append, List.nil_append, ne_eq, eq_self, forall_const, implies_true, if_true, if_false, reduceIte, List.cons.injEq, reduceCtorEq, Nat.reduceEqDiff, List.length_nil, List.length_cons, Nat.reduceAdd, Nat.reduceLT, List.set_cons_zero, List.set_cons_succ, ↓us_sl8Head, r_sl8Head, h12.facts, h2.facts, fMg, fQg, hq.facts, hI, hd]
  refine ⟨inR_i64 (by omega), m_call (sl1Rounds_ok st (by omega) _) ?_⟩
  rintro _ w3 hx3 rfl
  have hx3 := ud hx3
  have h13 := h12.ext hx3
  have h23 := h2.ext hx3
  simp only [↓vsd, vsn, gW, qd, qv, ev, pick, argE, List.map_cons, List.map_nil, Option.map_some, Option.map_none, zipE, List.cons_append, List.nil_append, ne_eq, eq_self, forall_const, implies_true, if_true, if_false, reduceIte, List.cons.injEq, reduceCtorEq, Nat.reduceEqDiff, List.length_nil, List.length_cons, Nat.reduceAdd, Nat.reduceLT, List.set_cons_zero, List.set_cons_succ, ↓us_sl8Head, r_sl8Head, h13.facts, h23.facts, fMg, fQg]
  refine m_call (sl4Lead_ok (roundsL st) _ (cs.take (cs.length - 1)) st (roundsL_row st (by omega)) (fun c hc => hm.1.2.2.2 c (List.mem_of_mem_take hc)) (by rw [List.length_take]; omega) _ (hqh.ext hx3)) ?_
  rintro _ w4 hx4 ⟨x, rfl, ho⟩
  have h14 := h13.ext hx4
  have h24 := h23.ext hx4
  have hx14 := (hx12.trans hx3).trans hx4
  simp only [↓vsd, vsn, gW, qd, qv, ev, pick, argE, List.map_cons, List.map_nil, Option.map_some, Option.map_none, zipE, List.cons_append, List.nil_append, ne_eq, eq_self, forall_const, implies_true, if_true, if_false, reduceIte, List.cons.injEq, reduceCtorEq, Nat.reduceEqDiff, List.length_nil, List.length_cons, Nat.reduceAdd, Nat.reduceLT, List.set_cons_zero, List.set_cons_succ, ↓us_sl8Head, r_sl8Head, h14.facts, h24.facts, fMg, fQg]
  refine m_call (sl8Change_ok nm st v cs b s call hc _ (h.ext hx14)) ?_
  rintro _ w5 hx5 rfl
  simp only [↓vsd, vsn, gW, qd, qv, ev, pick, argE, List.map_cons, List.map_nil, Option.map_some, Option.map_none, zipE, List.cons_append, List.nil_append, ne_eq, eq_self, forall_const, implies_true, if_true, if_false, reduceIte, List.cons.injEq, reduceCtorEq, Nat.reduceEqDiff, List.length_nil, List.length_cons, Nat.reduceAdd, Nat.reduceLT, List.set_cons_zero, List.set_cons_succ, ↓us_sl8Head, r_sl8Head]
  refine m_call (sl2Apply_ok _ _ (underL_row _ (roundsL_row st (by omega))) (by have := (hm.chg call).small; omega) _) ?_
  rintro _ w6 hx6 rfl
  simp only [↓vsd, vsn, gW, qd, qv, ev, pick, argE, List.map_cons, List.map_nil, Option.map_some, Option.map_none, zipE, List.cons_append, List.nil_append, ne_eq, eq_self, forall_const, implies_true, if_true, if_false, reduceIte, List.cons.injEq, reduceCtorEq, Nat.reduceEqDiff, List.length_nil, List.length_cons, Nat.reduceAdd, Nat.reduceLT, List.set_cons_zero, List.set_cons_succ, ↓us_sl8Head, r_sl8Head]
  exact ⟨(hx14.trans hx5).trans hx6, by rw [headC_eq]⟩
/-- A law's size of calls. -/
theorem lszCalls_ok (b s : List UInt8) (n : Int) (hn : n ≤ 1048576 ∧ 0 ≤ n) (hb : b.length ≤ 9223372036854775807 ∧ s.length ≤ 9223372036854775807) (w : World) :
    Fn 31 [kV b s, .int .i64 n] w (fun r _ => ∃ m : Int, r = .int .i64 m ∧ m ≤ 1048576 ∧ (0 ≤ m → b.length ≤ 1048576 ∧ s.length ≤ 1048576)) := by
  (refine callsV_of mix Try.func31 c_lszCalls ?_; simp only [↓vsd, vsn, gW, qd, qv, ev, pick, argE, List.map_cons, List.map_nil, Option.map_some, Option.map_none, zipE, List.cons_append, List.nil_append, ne_eq, eq_self, forall_const, implies_true, if_true, if_false, reduceIte, List.cons.injEq, reduceCtorEq, Nat.reduceEqDiff, List.length_nil, List.length_cons, Nat.reduceAdd, Nat.reduceLT, List.set_cons_zero, List.set_cons_succ, ↓us_lszCalls, r_lszCalls])
  refine m_al ?_
  rintro b1 w1 hb1 hblk hx1 hs1
  have h1 : Blk w1 b1 (fQ b s) 39 := hblk
  simp only [↓vsd, vsn, gW, qd, qv, ev, pick, argE, List.map_cons, List.map_nil, Option.map_some, Option.map_none, zipE, List.cons_append, List.nil_append, ne_eq, eq_self, forall_const, implies_true, if_true, if_false, reduceIte, List.cons.injEq, reduceCtorEq, Nat.reduceEqDiff, List.length_nil, List.length_cons, Nat.reduceAdd, Nat.reduceLT, List.set_cons_zero, List.set_cons_succ, ↓us_lszCalls, r_lszCalls, h1.facts, fQg]
  refine ⟨inR_i64 (by omega), fun hneg => ⟨hx1, -1, rfl, by omega, fun h => by omega⟩, fun hpos => ⟨inR_i64 (by omega), fun hneg => ⟨hx1, -1, rfl, by omega, fun h => by omega⟩, fun hp => ⟨hx1, _, rfl, by omega, fun _ => by omega⟩⟩⟩
theorem ltoCalls_ok (b s : List UInt8) (w : World) : Fn 34 [kV b s] w (fun r _ => r = kV b s) := by
  (refine callsV_of mix Try.func34 c_ltoCalls ?_; simp only [↓vsd, vsn, gW, qd, qv, ev, pick, argE, List.map_cons, List.map_nil, Option.map_some, Option.map_none, zipE, List.cons_append, List.nil_append, ne_eq, eq_self, forall_const, implies_true, if_true, if_false, reduceIte, List.cons.injEq, reduceCtorEq, Nat.reduceEqDiff, List.length_nil, List.length_cons, Nat.reduceAdd, Nat.reduceLT, List.set_cons_zero, List.set_cons_succ, ↓us_ltoCalls, r_ltoCalls])
  refine m_al ?_
  rintro b1 w1 hb1 hblk1 hx1 hs1
  have h1 : Blk w1 b1 (fQ b s) 39 := hblk1
  simp only [↓vsd, vsn, gW, qd, qv, ev, pick, argE, List.map_cons, List.map_nil, Option.map_some, Option.map_none, zipE, List.cons_append, List.nil_append, ne_eq, eq_self, forall_const, implies_true, if_true, if_false, reduceIte, List.cons.injEq, reduceCtorEq, Nat.reduceEqDiff, List.length_nil, List.length_cons, Nat.reduceAdd, Nat.reduceLT, List.set_cons_zero, List.set_cons_succ, ↓us_ltoCalls, r_ltoCalls, h1.facts, fQg]
  refine m_al ?_
  rintro b2 w2 hb2 hblk2 hx2 hs2
  have h1 := h1.ext hx2
  simp only [↓vsd, vsn, gW, qd, qv, ev, pick, argE, List.map_cons, List.map_nil, Option.map_some, Option.map_none, zipE, List.cons_append, List.nil_append, ne_eq, eq_self, forall_const, implies_true, if_true, if_false, reduceIte, List.cons.injEq, reduceCtorEq, Nat.reduceEqDiff, List.length_nil, List.length_cons, Nat.reduceAdd, Nat.reduceLT, List.set_cons_zero, List.set_cons_succ, ↓us_ltoCalls, r_ltoCalls, h1.facts, fQg]
  refine m_al ?_
  rintro b3 w3 hb3 hblk3 hx3 hs3
  have h1 := h1.ext hx3
  simp only [↓vsd, vsn, gW, qd, qv, ev, pick, argE, List.map_cons, List.map_nil, Option.map_some, Option.map_none, zipE, List.cons_append, List.nil_append, ne_eq, eq_self, forall_const, implies_true, if_true, if_false, reduceIte, List.cons.injEq, reduceCtorEq, Nat.reduceEqDiff, List.length_nil, List.length_cons, Nat.reduceAdd, Nat.reduceLT, List.set_cons_zero, List.set_cons_succ, ↓us_ltoCalls, r_ltoCalls, h1.facts, fQg]
  refine m_st hblk3 rfl (by simp) (fS_one _) ?_
  rintro w4 hblk4 hu4
  have h1 := hu4.blk h1 (by omega)
  simp only [↓vsd, vsn, gW, qd, qv, ev, pick, argE, List.map_cons, List.map_nil, Option.map_some, Option.map_none, zipE, List.cons_append, List.nil_append, ne_eq, eq_self, forall_const, implies_true, if_true, if_false, reduceIte, List.cons.injEq, reduceCtorEq, Nat.reduceEqDiff, List.length_nil, List.length_cons, Nat.reduceAdd, Nat.reduceLT, List.set_cons_zero, List.set_cons_succ, ↓us_ltoCalls, r_ltoCalls, h1.facts, fQg]
  refine m_st hblk4 rfl (Nat.le_refl 2) (fS_one _) ?_
  rintro w5 hblk5 hu5
  have h5 : Blk w5 b3 (fQ b s) 47 := hblk5
  have hx : Ext w w5 := hu5.below (hu4.below ((hx1.trans hx2).trans hx3) (by omega)) (by omega)
  simp only [↓vsd, vsn, gW, qd, qv, ev, pick, argE, List.map_cons, List.map_nil, Option.map_some, Option.map_none, zipE, List.cons_append, List.nil_append, ne_eq, eq_self, forall_const, implies_true, if_true, if_false, reduceIte, List.cons.injEq, reduceCtorEq, Nat.reduceEqDiff, List.length_nil, List.length_cons, Nat.reduceAdd, Nat.reduceLT, List.set_cons_zero, List.set_cons_succ, ↓us_ltoCalls, r_ltoCalls, h5.facts, fQg]
  refine m_st (hu5.blk (hu4.blk (hblk2.ext hx3) (by omega)) (by omega)) rfl (Nat.le_refl 2) (fQ_one _ _) ?_
  rintro w6 hblk6 hu6
  have h6 : Blk w6 b2 (fQ b s) 47 := hblk6
  have hx : Ext w w6 := hu6.below hx (by omega)
  simp only [↓vsd, vsn, gW, qd, qv, ev, pick, argE, List.map_cons, List.map_nil, Option.map_some, Option.map_none, zipE, List.cons_append, List.nil_append, ne_eq, eq_self, forall_const, implies_true, if_true, if_false, reduceIte, List.cons.injEq, reduceCtorEq, Nat.reduceEqDiff, List.length_nil, List.length_cons, Nat.reduceAdd, Nat.reduceLT, List.set_cons_zero, List.set_cons_succ, ↓us_ltoCalls, r_ltoCalls, h6.facts, fQg]
  exact hx
theorem leqIntS_ok (v1 v2 : Value) (l1 l2 : List Int) (w : World) (h1 : Sq fI 1 w v1 l1) (h2 : Sq fI 1 w v2 l2) (hl : l1.length ≤ 1000000000) : Fn 82 [v1, v2] w (fun v _ => v = .bool (decide (l1 = l2))) := by
  (refine callsV_of mix Try.func82 c_leqIntS ?_; simp only [↓vsd, vsn, gW, qd, qv, ev, pick, argE, List.map_cons, List.map_nil, Option.map_some, Option.map_none, zipE, List.cons_append, List.nil_append, ne_eq, eq_self, forall_const, implies_true, if_true, if_false, reduceIte, List.cons.injEq, reduceCtorEq, Nat.reduceEqDiff, List.length_nil, List.length_cons, Nat.reduceAdd, Nat.reduceLT, List.set_cons_zero, List.set_cons_succ, ↓us_leqIntS, r_leqIntS])
  simp only [↓vsd, vsn, gW, qd, qv, ev, pick, argE, List.map_cons, List.map_nil, Option.map_some, Option.map_none, zipE, List.cons_append, List.nil_append, ne_eq, eq_self, forall_const, implies_true, if_true, if_false, reduceIte, List.cons.injEq, reduceCtorEq, Nat.reduceEqDiff, List.length_nil, List.length_cons, Nat.reduceAdd, Nat.reduceLT, List.set_cons_zero, List.set_cons_succ, ↓us_leqIntS, r_leqIntS, h1.facts, h2.facts]
  refine ⟨fun hne => ⟨Ext.refl _, by have : ¬ l1 = l2 := fun e => hne (by rw [e]); simp [this]⟩, fun he => ?_⟩
  have he : l1.length = l2.length := by omega
  refine m_upto l1.length (fun k vs w' => vs = [.int .i64 k] ∧ l1.take k = l2.take k ∧ Ext w w') ⟨rfl, by simp, Ext.refl _⟩ ?_
  rintro k vs w1 hk ⟨rfl, hall, hx⟩
  have hq1 := h1.ext hx
  have hq2 := h2.ext hx
  by_cases hlt : k < l1.length
  · have hltI : (k : Int) < l1.length := by omega
    have hltJ : ¬ (l1.length : Int) ≤ k := by omega
    have hlt2 : k < l2.length := by omega
    have hltK : (k : Int) < l2.length := by omega
    simp only [↓vsd, vsn, gW, qd, qv, ev, pick, argE, List.map_cons, List.map_nil, Option.map_some, Option.map_none, zipE, List.cons_append, List.nil_append, ne_eq, eq_self, forall_const, implies_true, if_true, if_false, reduceIte, List.cons.injEq, reduceCtorEq, Nat.reduceEqDiff, List.length_nil, List.length_cons, Nat.reduceAdd, Nat.reduceLT, List.set_cons_zero, List.set_cons_succ, ↓us_leqIntS, r_leqIntS, hq1.facts, hq2.facts, hltI, hltJ, hltK, hq1.at1 0 hlt, hq2.at1 0 hlt2]
    refine ⟨by omega, by omega, fun hne => ⟨hx, by simp [ne_at k hne]⟩, fun he => ⟨inR_i64 (by omega), UpTo.next hlt ⟨rfl, eq_take hall hlt hlt2 he, by first | exact hx | exact dr hx⟩⟩⟩
  · obtain rfl : k = l1.length := by omega
    have hltI : ¬ (l1.length : Int) < l1.length := by omega
    simp only [↓vsd, vsn, gW, qd, qv, ev, pick, argE, List.map_cons, List.map_nil, Option.map_some, Option.map_none, zipE, List.cons_append, List.nil_append, ne_eq, eq_self, forall_const, implies_true, if_true, if_false, reduceIte, List.cons.injEq, reduceCtorEq, Nat.reduceEqDiff, List.length_nil, List.length_cons, Nat.reduceAdd, Nat.reduceLT, List.set_cons_zero, List.set_cons_succ, ↓us_leqIntS, r_leqIntS, hq1.facts, hltI]
    exact ⟨hx, by simp [eq_len hall he]⟩
def marksI (k n : Nat) : List Int := (List.range n).map fun i => ((k + i : Nat) : Int)
theorem marksI_len (k n : Nat) : (marksI k n).length = n := by simp [marksI]
theorem marksI_get (k n i : Nat) (h : i < n) : (marksI k n).getD i 0 = ((k + i : Nat) : Int) := by simp [marksI, List.getD_eq_getElem?_getD, h]
theorem marksI_succ (k n : Nat) : marksI k (n + 1) = marksI k n ++ [((k + n : Nat) : Int)] := by simp [marksI, List.range_succ]
theorem set_marksI (l : List Int) (k i : Nat) (h : i < l.length) : (marksI k i ++ l.drop i).set i ((k + i : Nat) : Int) = marksI k (i + 1) ++ l.drop (i + 1) := by
  rw [List.set_append_right _ _ (by rw [marksI_len]; exact Nat.le_refl i), marksI_len, Nat.sub_self, marksI_succ, List.append_assoc, List.drop_eq_getElem_cons h]
  rfl
theorem lmarkIntS_ok (v : Value) (l : List Int) (B k : Nat) (hl : l.length ≤ 1000000000) (hk : k ≤ 1000000000) (w : World) (h : Own fI 1 3 B w v l) :
    CallsV Try.prog 85 [v, .int .i64 k] w (fun v' w' => v' = .int .i64 (k + l.length : Nat) ∧ Own fI 1 3 B w' v (marksI k l.length) ∧ w.grownBy w' v.ownBlock) := by
  (refine callsV_of mix Try.func85 c_lmarkIntS ?_; simp only [↓vsd, vsn, gW, qd, qv, ev, pick, argE, List.map_cons, List.map_nil, Option.map_some, Option.map_none, zipE, List.cons_append, List.nil_append, ne_eq, eq_self, forall_const, implies_true, if_true, if_false, reduceIte, List.cons.injEq, reduceCtorEq, Nat.reduceEqDiff, List.length_nil, List.length_cons, Nat.reduceAdd, Nat.reduceLT, List.set_cons_zero, List.set_cons_succ, ↓us_lmarkIntS, r_lmarkIntS])
  refine m_upto l.length (fun i vs w' => vs = [.int .i64 (k + i : Nat), .int .i64 i] ∧ Own fI 1 3 B w' v (marksI k i ++ l.drop i) ∧ w.grownBy w' v.ownBlock) ⟨rfl, h.to (by simp [marksI]), grown_refl _ _⟩ ?_
  rintro i vs w1 hi ⟨rfl, ho, hg⟩
  have hlen : (marksI k i ++ l.drop i).length = l.length := by simp [marksI_len]; omega
  by_cases hlt : i < l.length
  · have hltI : (i : Int) < l.length := by omega
    have hltJ : ¬ (l.length : Int) ≤ i := by omega
    simp only [↓vsd, vsn, gW, qd, qv, ev, pick, argE, List.map_cons, List.map_nil, Option.map_some, Option.map_none, zipE, List.cons_append, List.nil_append, ne_eq, eq_self, forall_const, implies_true, if_true, if_false, reduceIte, List.cons.injEq, reduceCtorEq, Nat.reduceEqDiff, List.length_nil, List.length_cons, Nat.reduceAdd, Nat.reduceLT, List.set_cons_zero, List.set_cons_succ, ↓us_lmarkIntS, r_lmarkIntS, ho.sq.facts, hlen, hltI, hltJ]
    refine ⟨by omega, m_set1 i ((k + i : Nat) : Int) ho rfl (by omega) rfl fI_one ?_⟩
    rintro w3 ho3 hg3 _
    simp only [↓vsd, vsn, gW, qd, qv, ev, pick, argE, List.map_cons, List.map_nil, Option.map_some, Option.map_none, zipE, List.cons_append, List.nil_append, ne_eq, eq_self, forall_const, implies_true, if_true, if_false, reduceIte, List.cons.injEq, reduceCtorEq, Nat.reduceEqDiff, List.length_nil, List.length_cons, Nat.reduceAdd, Nat.reduceLT, List.set_cons_zero, List.set_cons_succ, ↓us_lmarkIntS, r_lmarkIntS]
    exact ⟨inR_i64 (by omega), inR_i64 (by omega), UpTo.next hlt ⟨rfl, ho3.to (set_marksI l k i hlt), grown_trans hg hg3⟩⟩
  · obtain rfl : i = l.length := by omega
    have hltI : ¬ (l.length : Int) < l.length := by omega
    simp only [↓vsd, vsn, gW, qd, qv, ev, pick, argE, List.map_cons, List.map_nil, Option.map_some, Option.map_none, zipE, List.cons_append, List.nil_append, ne_eq, eq_self, forall_const, implies_true, if_true, if_false, reduceIte, List.cons.injEq, reduceCtorEq, Nat.reduceEqDiff, List.length_nil, List.length_cons, Nat.reduceAdd, Nat.reduceLT, List.set_cons_zero, List.set_cons_succ, ↓us_lmarkIntS, r_lmarkIntS, ho.sq.facts, hlen, hltI]
    exact ⟨ho.to (by simp), hg⟩
theorem lheldIntS_ok (v : Value) (n k : Nat) (hl : n ≤ 1000000000) (hk : k ≤ 1000000000) (w : World) (h : Sq fI 1 w v (marksI k n)) :
    Fn 86 [v, .int .i64 k] w (fun v' w' => v' = .int .i64 (k + n : Nat)) := by
  (refine callsV_of mix Try.func86 c_lheldIntS ?_; simp only [↓vsd, vsn, gW, qd, qv, ev, pick, argE, List.map_cons, List.map_nil, Option.map_some, Option.map_none, zipE, List.cons_append, List.nil_append, ne_eq, eq_self, forall_const, implies_true, if_true, if_false, reduceIte, List.cons.injEq, reduceCtorEq, Nat.reduceEqDiff, List.length_nil, List.length_cons, Nat.reduceAdd, Nat.reduceLT, List.set_cons_zero, List.set_cons_succ, ↓us_lheldIntS, r_lheldIntS])
  refine m_upto n (fun i vs w' => vs = [.int .i64 (k + i : Nat), .int .i64 i] ∧ Ext w w') ⟨rfl, Ext.refl _⟩ ?_
  rintro i vs w1 hi ⟨rfl, hx⟩
  have hq := h.ext hx
  by_cases hlt : i < n
  · have hltI : (i : Int) < n := by omega
    have hltJ : ¬ (n : Int) ≤ i := by omega
    have hlt' : i < (marksI k n).length := by rw [marksI_len]; exact hlt
    have ha := hq.at1 0 hlt'
    have hgt := marksI_get k n i hlt
    simp only [↓vsd, vsn, gW, qd, qv, ev, pick, argE, List.map_cons, List.map_nil, Option.map_some, Option.map_none, zipE, List.cons_append, List.nil_append, ne_eq, eq_self, forall_const, implies_true, if_true, if_false, reduceIte, List.cons.injEq, reduceCtorEq, Nat.reduceEqDiff, List.length_nil, List.length_cons, Nat.reduceAdd, Nat.reduceLT, List.set_cons_zero, List.set_cons_succ, ↓us_lheldIntS, r_lheldIntS, hq.facts, marksI_len, hltI, hltJ, ha, hgt]
    exact ⟨by omega, inR_i64 (by omega), inR_i64 (by omega), UpTo.next hlt ⟨rfl, hx⟩⟩
  · obtain rfl : i = n := by omega
    have hltI : ¬ (i : Int) < i := by omega
    simp only [↓vsd, vsn, gW, qd, qv, ev, pick, argE, List.map_cons, List.map_nil, Option.map_some, Option.map_none, zipE, List.cons_append, List.nil_append, ne_eq, eq_self, forall_const, implies_true, if_true, if_false, reduceIte, List.cons.injEq, reduceCtorEq, Nat.reduceEqDiff, List.length_nil, List.length_cons, Nat.reduceAdd, Nat.reduceLT, List.set_cons_zero, List.set_cons_succ, ↓us_lheldIntS, r_lheldIntS, hq.facts, marksI_len, hltI]
    exact hx
theorem lmarkMethod_ok (nm : List UInt8) (st : Int) (v : Value) (cs : List (List UInt8)) (B k : Nat) (hl : cs.length ≤ 1000000000) (hk : k ≤ 1000000000) (w : World) (h : Own fS 1 9 B w v cs) :
    CallsV Try.prog 46 [mV nm st v, .int .i64 k] w (fun v' w' => v' = .int .i64 (k + cs.length : Nat) ∧ Own fS 1 9 B w' v (marksL k cs.length) ∧ w.grownBy w' v.ownBlock) := by
  (refine callsV_of mix Try.func46 c_lmarkMethod ?_; simp only [↓vsd, vsn, gW, qd, qv, ev, pick, argE, List.map_cons, List.map_nil, Option.map_some, Option.map_none, zipE, List.cons_append, List.nil_append, ne_eq, eq_self, forall_const, implies_true, if_true, if_false, reduceIte, List.cons.injEq, reduceCtorEq, Nat.reduceEqDiff, List.length_nil, List.length_cons, Nat.reduceAdd, Nat.reduceLT, List.set_cons_zero, List.set_cons_succ, ↓us_lmarkMethod, r_lmarkMethod])
  refine m_al ?_
  rintro b1 w1 hb1 hblk1 hx1 hs1
  have h1 : Blk w1 b1 (fM nm st v) 58 := hblk1
  simp only [↓vsd, vsn, gW, qd, qv, ev, pick, argE, List.map_cons, List.map_nil, Option.map_some, Option.map_none, zipE, List.cons_append, List.nil_append, ne_eq, eq_self, forall_const, implies_true, if_true, if_false, reduceIte, List.cons.injEq, reduceCtorEq, Nat.reduceEqDiff, List.length_nil, List.length_cons, Nat.reduceAdd, Nat.reduceLT, List.set_cons_zero, List.set_cons_succ, ↓us_lmarkMethod, r_lmarkMethod, h1.facts, fMg]
  refine m_callw (.inl rfl) (lmarkStringS_ok v cs B k hl hk _ (h.ext hx1)) ?_
  rintro _ w2 ⟨rfl, ho2, hg2⟩
  simp only [↓vsd, vsn, gW, qd, qv, ev, pick, argE, List.map_cons, List.map_nil, Option.map_some, Option.map_none, zipE, List.cons_append, List.nil_append, ne_eq, eq_self, forall_const, implies_true, if_true, if_false, reduceIte, List.cons.injEq, reduceCtorEq, Nat.reduceEqDiff, List.length_nil, List.length_cons, Nat.reduceAdd, Nat.reduceLT, List.set_cons_zero, List.set_cons_succ, ↓us_lmarkMethod, r_lmarkMethod]
  exact ⟨ho2, grown_trans (grown_ext _ hx1) hg2⟩
end Go.Proofs.Ytjcnmobdlkmaeaa
