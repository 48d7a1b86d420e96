/-
  Places and mirrors of the reference; draws of changes; the call of the law FnPairs.
  Conditions: none.
-/
import Derived.Test.YtjcnmobdlkmaeaaD10
import Derived.Test.YtjcnmobdlkmaeaaA27
set_option linter.unusedSimpArgs false
set_option linter.unusedVariables false
set_option linter.defProp false
namespace Go.Proofs.Ytjcnmobdlkmaeaa
open Go Go.RowKit
def t_sl2Places_1 : X := (.cond (.t 9) .skip (.exit 0))
theorem u_sl2Places_1 (P : Program) (k : KT) (e : Env) (w : World) : vcK P t_sl2Places_1 k e w = vcK P (.cond (.t 9) .skip (.exit 0)) k e w := rfl
def t_sl2Places_2 : X := (.cond (.t 14) (.reg [0, 1, 5, 6] (.c (.q 15 [] (.mv (.t 5))) (.c (.q 16 [] (.mv (.t 6))) (.c (.e (some 17) [] (.bsl 3 1 [(.t 16)])) (.c (.e (some 18) [] (.app 28 3 1 8 [(.int .i64 0)] 28 (.t 15) (.t 17))) (.c (.q 5 [] (.mv (.t 18))) .nil)))))) .skip)
theorem u_sl2Places_2 (P : Program) (k : KT) (e : Env) (w : World) : vcK P t_sl2Places_2 k e w = vcK P (.cond (.t 14) (.reg [0, 1, 5, 6] (.c (.q 15 [] (.mv (.t 5))) (.c (.q 16 [] (.mv (.t 6))) (.c (.e (some 17) [] (.bsl 3 1 [(.t 16)])) (.c (.e (some 18) [] (.app 28 3 1 8 [(.int .i64 0)] 28 (.t 15) (.t 17))) (.c (.q 5 [] (.mv (.t 18))) .nil)))))) .skip) k e w := rfl
def t_sl2Places_3 : X := (.reg [0, 1, 5, 6] (.c (.q 10 [] (.mv (.t 6))) (.c (.q 11 [] (.bin .add (.t 10) (.c (.int .i64 1)))) (.c (.q 6 [] (.mv (.t 11))) .nil))))
theorem u_sl2Places_3 (P : Program) (k : KT) (e : Env) (w : World) : vcK P t_sl2Places_3 k e w = vcK P (.reg [0, 1, 5, 6] (.c (.q 10 [] (.mv (.t 6))) (.c (.q 11 [] (.bin .add (.t 10) (.c (.int .i64 1)))) (.c (.q 6 [] (.mv (.t 11))) .nil)))) k e w := rfl
def t_sl2Places_4 : X := (.seq (.blk 1 (.seq (.reg [0, 1, 5, 6, 14] (.c (.q 12 [] (.mv (.t 1))) (.c (.q 13 [] (.mv (.t 6))) (.c (.e (some 14) [] (.call false 264 [(.t 12), (.t 13)])) .nil)))) t_sl2Places_2)) t_sl2Places_3)
theorem u_sl2Places_4 (P : Program) (k : KT) (e : Env) (w : World) : vcK P t_sl2Places_4 k e w = vcK P (.seq (.blk 1 (.seq (.reg [0, 1, 5, 6, 14] (.c (.q 12 [] (.mv (.t 1))) (.c (.q 13 [] (.mv (.t 6))) (.c (.e (some 14) [] (.call false 264 [(.t 12), (.t 13)])) .nil)))) t_sl2Places_2)) t_sl2Places_3) k e w := rfl
def t_sl2Places_5 : X := (.seq (.seq (.reg [0, 1, 5, 6, 9] (.c (.q 7 [] (.mv (.t 6))) (.c (.q 8 [] (.mv (.t 0))) (.c (.q 9 [] (.bin .leq (.t 7) (.t 8))) .nil)))) t_sl2Places_1) t_sl2Places_4)
theorem u_sl2Places_5 (P : Program) (k : KT) (e : Env) (w : World) : vcK P t_sl2Places_5 k e w = vcK P (.seq (.seq (.reg [0, 1, 5, 6, 9] (.c (.q 7 [] (.mv (.t 6))) (.c (.q 8 [] (.mv (.t 0))) (.c (.q 9 [] (.bin .leq (.t 7) (.t 8))) .nil)))) t_sl2Places_1) t_sl2Places_4) k e w := rfl
def t_sl2Places_6 : X := (.blk 0 (.loop [5, 6] [0, 1] t_sl2Places_5))
theorem u_sl2Places_6 (P : Program) (k : KT) (e : Env) (w : World) : vcK P t_sl2Places_6 k e w = vcK P (.blk 0 (.loop [5, 6] [0, 1] t_sl2Places_5)) k e w := rfl
def t_sl2Places_7 : X := (.seq (.reg [4] (.c (.q 19 [] (.mv (.t 5))) (.c (.q 4 [] (.mv (.t 19))) .nil))) .ret)
theorem u_sl2Places_7 (P : Program) (k : KT) (e : Env) (w : World) : vcK P t_sl2Places_7 k e w = vcK P (.seq (.reg [4] (.c (.q 19 [] (.mv (.t 5))) (.c (.q 4 [] (.mv (.t 19))) .nil))) .ret) k e w := rfl
def t_sl2Places_8 : X := (.seq (.seq (.reg [0, 1, 5, 6] (.c (.q 6 [] (.mv (.c (.int .i64 1)))) .nil)) t_sl2Places_6) t_sl2Places_7)
theorem u_sl2Places_8 (P : Program) (k : KT) (e : Env) (w : World) : vcK P t_sl2Places_8 k e w = vcK P (.seq (.seq (.reg [0, 1, 5, 6] (.c (.q 6 [] (.mv (.c (.int .i64 1)))) .nil)) t_sl2Places_6) t_sl2Places_7) k e w := rfl
def t_sl2Places_9 : X := (.seq (.reg [0, 1, 5] (.c (.q 5 [] (.mv (.c (.slice none 0 0)))) .nil)) t_sl2Places_8)
theorem u_sl2Places_9 (P : Program) (k : KT) (e : Env) (w : World) : vcK P t_sl2Places_9 k e w = vcK P (.seq (.reg [0, 1, 5] (.c (.q 5 [] (.mv (.c (.slice none 0 0)))) .nil)) t_sl2Places_8) k e w := rfl
def x_sl2Places : X := (.seq (.reg [0, 1] (.c (.q 4 [] (.mv (.c (.slice none 0 0)))) .nil)) t_sl2Places_9)
theorem u_sl2Places (P : Program) (k : KT) (e : Env) (w : World) : vcK P x_sl2Places k e w = vcK P (.seq (.reg [0, 1] (.c (.q 4 [] (.mv (.c (.slice none 0 0)))) .nil)) t_sl2Places_9) k e w := rfl
def r_sl2Places : List XO := [(.mv (.t 4))]
theorem c_sl2Places : convF Try.prog [145, 147, 148, 149, 158, 205, 206, 232, 234, 247, 248, 256, 261, 283, 284, 299, 300, 307] Try.f162 [([0, 1], []), ([0, 1, 5], []), ([0, 1, 5, 6], []), ([5, 6], [0, 1]), ([0, 1, 5, 6, 9], []), ([0, 1, 5, 6, 14], []), ([0, 1, 5, 6], []), ([0, 1, 5, 6], []), ([4], [])] = some (x_sl2Places, r_sl2Places) := by kernel_rfl
def us_sl2Places := And.intro @u_sl2Places (And.intro @u_sl2Places_1 (And.intro @u_sl2Places_2 (And.intro @u_sl2Places_3 (And.intro @u_sl2Places_4 (And.intro @u_sl2Places_5 (And.intro @u_sl2Places_6 (And.intro @u_sl2Places_7 (And.intro @u_sl2Places_8 @u_sl2Places_9))))))))
def t_sl1Put_1 : X := (.cond (.t 18) .skip (.exit 0))
theorem u_sl1Put_1 (P : Program) (k : KT) (e : Env) (w : World) : vcK P t_sl1Put_1 k e w = vcK P (.cond (.t 18) .skip (.exit 0)) k e w := rfl
def t_sl1Put_2 : X := (.blk 1 (.reg [0, 1, 5] (.c (.q 19 [] (.mv (.t 5))) (.c (.q 20 [] (.bin .add (.t 19) (.c (.int .i64 1)))) (.c (.q 5 [] (.mv (.t 20))) .nil)))))
theorem u_sl1Put_2 (P : Program) (k : KT) (e : Env) (w : World) : vcK P t_sl1Put_2 k e w = vcK P (.blk 1 (.reg [0, 1, 5] (.c (.q 19 [] (.mv (.t 5))) (.c (.q 20 [] (.bin .add (.t 19) (.c (.int .i64 1)))) (.c (.q 5 [] (.mv (.t 20))) .nil))))) k e w := rfl
def t_sl1Put_3 : X := (.seq (.seq (.reg [0, 1, 5, 18] (.c (.q 7 [] (.mv (.t 5))) (.c (.q 8 [] (.mv (.t 0))) (.c (.q 9 [] (.lens (.t 8))) (.c (.q 10 [] (.bin .lss (.t 7) (.t 9))) (.c (.q 11 [] (.mv (.t 10))) (.c (.q 12 [(11, true)] (.mv (.t 0))) (.c (.q 13 [(11, true)] (.mv (.t 5))) (.c (.q 14 [(11, true)] (.ia 1 (.t 12) (.t 13))) (.c (.q 15 [(11, true)] (.ld (.t 14))) (.c (.q 16 [(11, true)] (.mv (.t 1))) (.c (.q 17 [(11, true)] (.bin .lss (.t 15) (.t 16))) (.c (.q 18 [] (.pick (.t 11) (.t 17) (.c (.bool false)))) .nil))))))))))))) t_sl1Put_1) t_sl1Put_2)
theorem u_sl1Put_3 (P : Program) (k : KT) (e : Env) (w : World) : vcK P t_sl1Put_3 k e w = vcK P (.seq (.seq (.reg [0, 1, 5, 18] (.c (.q 7 [] (.mv (.t 5))) (.c (.q 8 [] (.mv (.t 0))) (.c (.q 9 [] (.lens (.t 8))) (.c (.q 10 [] (.bin .lss (.t 7) (.t 9))) (.c (.q 11 [] (.mv (.t 10))) (.c (.q 12 [(11, true)] (.mv (.t 0))) (.c (.q 13 [(11, true)] (.mv (.t 5))) (.c (.q 14 [(11, true)] (.ia 1 (.t 12) (.t 13))) (.c (.q 15 [(11, true)] (.ld (.t 14))) (.c (.q 16 [(11, true)] (.mv (.t 1))) (.c (.q 17 [(11, true)] (.bin .lss (.t 15) (.t 16))) (.c (.q 18 [] (.pick (.t 11) (.t 17) (.c (.bool false)))) .nil))))))))))))) t_sl1Put_1) t_sl1Put_2) k e w := rfl
def t_sl1Put_4 : X := (.cond (.t 32) (.seq (.reg [4] (.c (.q 33 [] (.mv (.t 0))) (.c (.q 4 [] (.mv (.t 33))) .nil))) .ret) .skip)
theorem u_sl1Put_4 (P : Program) (k : KT) (e : Env) (w : World) : vcK P t_sl1Put_4 k e w = vcK P (.cond (.t 32) (.seq (.reg [4] (.c (.q 33 [] (.mv (.t 0))) (.c (.q 4 [] (.mv (.t 33))) .nil))) .ret) .skip) k e w := rfl
def t_sl1Put_5 : X := (.seq (.reg [4] (.c (.q 43 [] (.mv (.t 6))) (.c (.q 44 [] (.mv (.t 0))) (.c (.q 45 [] (.mv (.t 5))) (.c (.q 46 [] (.ssl 1 (.t 44) (some (.t 45)) none)) (.c (.e (some 47) [] (.app 28 3 1 8 [(.int .i64 0)] 28 (.t 43) (.t 46))) (.c (.q 4 [] (.mv (.t 47))) .nil))))))) .ret)
theorem u_sl1Put_5 (P : Program) (k : KT) (e : Env) (w : World) : vcK P t_sl1Put_5 k e w = vcK P (.seq (.reg [4] (.c (.q 43 [] (.mv (.t 6))) (.c (.q 44 [] (.mv (.t 0))) (.c (.q 45 [] (.mv (.t 5))) (.c (.q 46 [] (.ssl 1 (.t 44) (some (.t 45)) none)) (.c (.e (some 47) [] (.app 28 3 1 8 [(.int .i64 0)] 28 (.t 43) (.t 46))) (.c (.q 4 [] (.mv (.t 47))) .nil))))))) .ret) k e w := rfl
def t_sl1Put_6 : X := (.seq (.reg [0, 5, 6] (.c (.q 39 [] (.mv (.t 6))) (.c (.q 40 [] (.mv (.t 1))) (.c (.e (some 41) [] (.bsl 3 1 [(.t 40)])) (.c (.e (some 42) [] (.app 28 3 1 8 [(.int .i64 0)] 28 (.t 39) (.t 41))) (.c (.q 6 [] (.mv (.t 42))) .nil)))))) t_sl1Put_5)
theorem u_sl1Put_6 (P : Program) (k : KT) (e : Env) (w : World) : vcK P t_sl1Put_6 k e w = vcK P (.seq (.reg [0, 5, 6] (.c (.q 39 [] (.mv (.t 6))) (.c (.q 40 [] (.mv (.t 1))) (.c (.e (some 41) [] (.bsl 3 1 [(.t 40)])) (.c (.e (some 42) [] (.app 28 3 1 8 [(.int .i64 0)] 28 (.t 39) (.t 41))) (.c (.q 6 [] (.mv (.t 42))) .nil)))))) t_sl1Put_5) k e w := rfl
def t_sl1Put_7 : X := (.seq (.reg [0, 1, 5, 6] (.c (.e (some 34) [] (.bsl 3 1 [])) (.c (.q 35 [] (.mv (.t 0))) (.c (.q 36 [] (.mv (.t 5))) (.c (.q 37 [] (.ssl 1 (.t 35) none (some (.t 36)))) (.c (.e (some 38) [] (.app 28 3 1 8 [(.int .i64 0)] 28 (.t 34) (.t 37))) (.c (.q 6 [] (.mv (.t 38))) .nil))))))) t_sl1Put_6)
theorem u_sl1Put_7 (P : Program) (k : KT) (e : Env) (w : World) : vcK P t_sl1Put_7 k e w = vcK P (.seq (.reg [0, 1, 5, 6] (.c (.e (some 34) [] (.bsl 3 1 [])) (.c (.q 35 [] (.mv (.t 0))) (.c (.q 36 [] (.mv (.t 5))) (.c (.q 37 [] (.ssl 1 (.t 35) none (some (.t 36)))) (.c (.e (some 38) [] (.app 28 3 1 8 [(.int .i64 0)] 28 (.t 34) (.t 37))) (.c (.q 6 [] (.mv (.t 38))) .nil))))))) t_sl1Put_6) k e w := rfl
def t_sl1Put_8 : X := (.seq (.seq (.reg [0, 1, 5, 32] (.c (.q 21 [] (.mv (.t 5))) (.c (.q 22 [] (.mv (.t 0))) (.c (.q 23 [] (.lens (.t 22))) (.c (.q 24 [] (.bin .lss (.t 21) (.t 23))) (.c (.q 25 [] (.mv (.t 24))) (.c (.q 26 [(25, true)] (.mv (.t 0))) (.c (.q 27 [(25, true)] (.mv (.t 5))) (.c (.q 28 [(25, true)] (.ia 1 (.t 26) (.t 27))) (.c (.q 29 [(25, true)] (.ld (.t 28))) (.c (.q 30 [(25, true)] (.mv (.t 1))) (.c (.q 31 [(25, true)] (.bin .eql (.t 29) (.t 30))) (.c (.q 32 [] (.pick (.t 25) (.t 31) (.c (.bool false)))) .nil))))))))))))) t_sl1Put_4) t_sl1Put_7)
theorem u_sl1Put_8 (P : Program) (k : KT) (e : Env) (w : World) : vcK P t_sl1Put_8 k e w = vcK P (.seq (.seq (.reg [0, 1, 5, 32] (.c (.q 21 [] (.mv (.t 5))) (.c (.q 22 [] (.mv (.t 0))) (.c (.q 23 [] (.lens (.t 22))) (.c (.q 24 [] (.bin .lss (.t 21) (.t 23))) (.c (.q 25 [] (.mv (.t 24))) (.c (.q 26 [(25, true)] (.mv (.t 0))) (.c (.q 27 [(25, true)] (.mv (.t 5))) (.c (.q 28 [(25, true)] (.ia 1 (.t 26) (.t 27))) (.c (.q 29 [(25, true)] (.ld (.t 28))) (.c (.q 30 [(25, true)] (.mv (.t 1))) (.c (.q 31 [(25, true)] (.bin .eql (.t 29) (.t 30))) (.c (.q 32 [] (.pick (.t 25) (.t 31) (.c (.bool false)))) .nil))))))))))))) t_sl1Put_4) t_sl1Put_7) k e w := rfl
def t_sl1Put_9 : X := (.seq (.blk 0 (.loop [5] [0, 1] t_sl1Put_3)) t_sl1Put_8)
theorem u_sl1Put_9 (P : Program) (k : KT) (e : Env) (w : World) : vcK P t_sl1Put_9 k e w = vcK P (.seq (.blk 0 (.loop [5] [0, 1] t_sl1Put_3)) t_sl1Put_8) k e w := rfl
def t_sl1Put_10 : X := (.seq (.reg [0, 1, 5] (.c (.q 5 [] (.mv (.c (.int .i64 0)))) .nil)) t_sl1Put_9)
theorem u_sl1Put_10 (P : Program) (k : KT) (e : Env) (w : World) : vcK P t_sl1Put_10 k e w = vcK P (.seq (.reg [0, 1, 5] (.c (.q 5 [] (.mv (.c (.int .i64 0)))) .nil)) t_sl1Put_9) k e w := rfl
def x_sl1Put : X := (.seq (.reg [0, 1] (.c (.q 4 [] (.mv (.c (.slice none 0 0)))) .nil)) t_sl1Put_10)
theorem u_sl1Put (P : Program) (k : KT) (e : Env) (w : World) : vcK P x_sl1Put k e w = vcK P (.seq (.reg [0, 1] (.c (.q 4 [] (.mv (.c (.slice none 0 0)))) .nil)) t_sl1Put_10) k e w := rfl
def r_sl1Put : List XO := [(.mv (.t 4))]
theorem c_sl1Put : convF Try.prog [145, 147, 148, 149, 158, 205, 206, 232, 234, 247, 248, 256, 261, 283, 284, 299, 300, 307] Try.f163 [([0, 1], []), ([0, 1, 5], []), ([5], [0, 1]), ([0, 1, 5, 18], []), ([0, 1, 5], []), ([0, 1, 5, 32], []), ([4], []), ([0, 1, 5, 6], []), ([0, 5, 6], []), ([4], [])] = some (x_sl1Put, r_sl1Put) := by kernel_rfl
def us_sl1Put := And.intro @u_sl1Put (And.intro @u_sl1Put_1 (And.intro @u_sl1Put_2 (And.intro @u_sl1Put_3 (And.intro @u_sl1Put_4 (And.intro @u_sl1Put_5 (And.intro @u_sl1Put_6 (And.intro @u_sl1Put_7 (And.intro @u_sl1Put_8 (And.intro @u_sl1Put_9 @u_sl1Put_10)))))))))
def t_sMirrorChange_1 : X := (.cond (.t 12) (.seq (.reg [4, 5] (.c (.q 4 [] (.mv (.s []))) (.c (.q 5 [] (.mv (.c (.bool false)))) .nil))) .ret) .skip)
theorem u_sMirrorChange_1 (P : Program) (k : KT) (e : Env) (w : World) : vcK P t_sMirrorChange_1 k e w = vcK P (.cond (.t 12) (.seq (.reg [4, 5] (.c (.q 4 [] (.mv (.s []))) (.c (.q 5 [] (.mv (.c (.bool false)))) .nil))) .ret) .skip) k e w := rfl
def t_sMirrorChange_2 : X := (.reg [0, 6, 15, 16, 17] (.c (.q 21 [] (.mv (.t 6))) (.c (.q 22 [] (.mv (.t 0))) (.c (.q 23 [] (.bin .add (.t 22) (.c (.int .i64 1)))) (.c (.q 24 [] (.mv (.t 8))) (.c (.q 25 [] (.bin .sub (.t 23) (.t 24))) (.c (.e (some 26) [] (.call false 163 [(.t 21), (.t 25)])) (.c (.q 6 [] (.mv (.t 26))) .nil))))))))
theorem u_sMirrorChange_2 (P : Program) (k : KT) (e : Env) (w : World) : vcK P t_sMirrorChange_2 k e w = vcK P (.reg [0, 6, 15, 16, 17] (.c (.q 21 [] (.mv (.t 6))) (.c (.q 22 [] (.mv (.t 0))) (.c (.q 23 [] (.bin .add (.t 22) (.c (.int .i64 1)))) (.c (.q 24 [] (.mv (.t 8))) (.c (.q 25 [] (.bin .sub (.t 23) (.t 24))) (.c (.e (some 26) [] (.call false 163 [(.t 21), (.t 25)])) (.c (.q 6 [] (.mv (.t 26))) .nil)))))))) k e w := rfl
def t_sMirrorChange_3 : X := (.reg [0, 6, 15, 16, 17] (.c (.q 27 [] (.bin .add (.t 17) (.c (.int .i64 1)))) (.c (.q 17 [] (.mv (.t 27))) .nil)))
theorem u_sMirrorChange_3 (P : Program) (k : KT) (e : Env) (w : World) : vcK P t_sMirrorChange_3 k e w = vcK P (.reg [0, 6, 15, 16, 17] (.c (.q 27 [] (.bin .add (.t 17) (.c (.int .i64 1)))) (.c (.q 17 [] (.mv (.t 27))) .nil))) k e w := rfl
def t_sMirrorChange_4 : X := (.seq (.blk 1 (.seq (.reg [0, 6, 8, 15, 16, 17] (.c (.q 19 [] (.ia 1 (.t 15) (.t 17))) (.c (.q 20 [] (.ld (.t 19))) (.c (.q 8 [] (.mv (.t 20))) .nil)))) t_sMirrorChange_2)) t_sMirrorChange_3)
theorem u_sMirrorChange_4 (P : Program) (k : KT) (e : Env) (w : World) : vcK P t_sMirrorChange_4 k e w = vcK P (.seq (.blk 1 (.seq (.reg [0, 6, 8, 15, 16, 17] (.c (.q 19 [] (.ia 1 (.t 15) (.t 17))) (.c (.q 20 [] (.ld (.t 19))) (.c (.q 8 [] (.mv (.t 20))) .nil)))) t_sMirrorChange_2)) t_sMirrorChange_3) k e w := rfl
def t_sMirrorChange_5 : X := (.seq (.cond (.t 18) .skip (.exit 0)) t_sMirrorChange_4)
theorem u_sMirrorChange_5 (P : Program) (k : KT) (e : Env) (w : World) : vcK P t_sMirrorChange_5 k e w = vcK P (.seq (.cond (.t 18) .skip (.exit 0)) t_sMirrorChange_4) k e w := rfl
def t_sMirrorChange_6 : X := (.seq (.reg [0, 6, 15, 16, 17, 18] (.c (.q 18 [] (.bin .lss (.t 17) (.t 16))) .nil)) t_sMirrorChange_5)
theorem u_sMirrorChange_6 (P : Program) (k : KT) (e : Env) (w : World) : vcK P t_sMirrorChange_6 k e w = vcK P (.seq (.reg [0, 6, 15, 16, 17, 18] (.c (.q 18 [] (.bin .lss (.t 17) (.t 16))) .nil)) t_sMirrorChange_5) k e w := rfl
def t_sMirrorChange_7 : X := (.blk 0 (.loop [6, 17] [0, 15, 16] t_sMirrorChange_6))
theorem u_sMirrorChange_7 (P : Program) (k : KT) (e : Env) (w : World) : vcK P t_sMirrorChange_7 k e w = vcK P (.blk 0 (.loop [6, 17] [0, 15, 16] t_sMirrorChange_6)) k e w := rfl
def t_sMirrorChange_8 : X := (.seq (.reg [4, 5] (.c (.q 28 [] (.mv (.t 6))) (.c (.e (some 29) [] (.call false 164 [(.t 28)])) (.c (.q 4 [] (.mv (.t 29))) (.c (.q 5 [] (.mv (.c (.bool true)))) .nil))))) .ret)
theorem u_sMirrorChange_8 (P : Program) (k : KT) (e : Env) (w : World) : vcK P t_sMirrorChange_8 k e w = vcK P (.seq (.reg [4, 5] (.c (.q 28 [] (.mv (.t 6))) (.c (.e (some 29) [] (.call false 164 [(.t 28)])) (.c (.q 4 [] (.mv (.t 29))) (.c (.q 5 [] (.mv (.c (.bool true)))) .nil))))) .ret) k e w := rfl
def t_sMirrorChange_9 : X := (.seq (.seq (.reg [0, 6, 15, 16, 17] (.c (.q 13 [] (.mv (.t 0))) (.c (.q 14 [] (.mv (.t 1))) (.c (.e (some 15) [] (.call false 162 [(.t 13), (.t 14)])) (.c (.q 16 [] (.lens (.t 15))) (.c (.q 17 [] (.mv (.c (.int .i64 0)))) .nil)))))) t_sMirrorChange_7) t_sMirrorChange_8)
theorem u_sMirrorChange_9 (P : Program) (k : KT) (e : Env) (w : World) : vcK P t_sMirrorChange_9 k e w = vcK P (.seq (.seq (.reg [0, 6, 15, 16, 17] (.c (.q 13 [] (.mv (.t 0))) (.c (.q 14 [] (.mv (.t 1))) (.c (.e (some 15) [] (.call false 162 [(.t 13), (.t 14)])) (.c (.q 16 [] (.lens (.t 15))) (.c (.q 17 [] (.mv (.c (.int .i64 0)))) .nil)))))) t_sMirrorChange_7) t_sMirrorChange_8) k e w := rfl
def t_sMirrorChange_10 : X := (.seq (.reg [0, 1, 6] (.c (.q 6 [] (.mv (.c (.slice none 0 0)))) .nil)) t_sMirrorChange_9)
theorem u_sMirrorChange_10 (P : Program) (k : KT) (e : Env) (w : World) : vcK P t_sMirrorChange_10 k e w = vcK P (.seq (.reg [0, 1, 6] (.c (.q 6 [] (.mv (.c (.slice none 0 0)))) .nil)) t_sMirrorChange_9) k e w := rfl
def t_sMirrorChange_11 : X := (.seq (.seq (.reg [0, 1, 12] (.c (.q 9 [] (.mv (.t 0))) (.c (.q 10 [] (.mv (.t 1))) (.c (.e (some 11) [] (.call false 152 [(.t 9), (.t 10)])) (.c (.q 12 [] (.not (.t 11))) .nil))))) t_sMirrorChange_1) t_sMirrorChange_10)
theorem u_sMirrorChange_11 (P : Program) (k : KT) (e : Env) (w : World) : vcK P t_sMirrorChange_11 k e w = vcK P (.seq (.seq (.reg [0, 1, 12] (.c (.q 9 [] (.mv (.t 0))) (.c (.q 10 [] (.mv (.t 1))) (.c (.e (some 11) [] (.call false 152 [(.t 9), (.t 10)])) (.c (.q 12 [] (.not (.t 11))) .nil))))) t_sMirrorChange_1) t_sMirrorChange_10) k e w := rfl
def x_sMirrorChange : X := (.seq (.reg [0, 1] (.c (.q 4 [] (.mv (.s []))) (.c (.q 5 [] (.mv (.c (.bool false)))) .nil))) t_sMirrorChange_11)
theorem u_sMirrorChange (P : Program) (k : KT) (e : Env) (w : World) : vcK P x_sMirrorChange k e w = vcK P (.seq (.reg [0, 1] (.c (.q 4 [] (.mv (.s []))) (.c (.q 5 [] (.mv (.c (.bool false)))) .nil))) t_sMirrorChange_11) k e w := rfl
def r_sMirrorChange : List XO := [(.mv (.t 4)), (.mv (.t 5))]
theorem c_sMirrorChange : convF Try.prog [145, 147, 148, 149, 158, 205, 206, 232, 234, 247, 248, 256, 261, 283, 284, 299, 300, 307] Try.f26 [([0, 1], []), ([0, 1, 12], []), ([4, 5], []), ([0, 1, 6], []), ([0, 6, 15, 16, 17], []), ([6, 17], [0, 15, 16]), ([0, 6, 15, 16, 17, 18], []), ([0, 6, 8, 15, 16, 17], []), ([0, 6, 15, 16, 17], []), ([0, 6, 15, 16, 17], []), ([4, 5], [])] = some (x_sMirrorChange, r_sMirrorChange) := by kernel_rfl
def us_sMirrorChange := And.intro @u_sMirrorChange (And.intro @u_sMirrorChange_1 (And.intro @u_sMirrorChange_2 (And.intro @u_sMirrorChange_3 (And.intro @u_sMirrorChange_4 (And.intro @u_sMirrorChange_5 (And.intro @u_sMirrorChange_6 (And.intro @u_sMirrorChange_7 (And.intro @u_sMirrorChange_8 (And.intro @u_sMirrorChange_9 (And.intro @u_sMirrorChange_10 @u_sMirrorChange_11))))))))))

def staL (c : List UInt8) (k : Nat) : List Int := ((List.range k).filter fun i => stays c (i + 1)).map fun i : Nat => (i : Int) + 1
theorem staL_succ (c : List UInt8) (k : Nat) : staL c (k + 1) = staL c k ++ if stays c (k + 1) = true then [(k : Int) + 1] else [] := by
  rw [staL, List.range_succ, List.filter_append, List.map_append]
  congr 1
  by_cases h : stays c (k + 1) = true
  · rw [if_pos h, List.filter_cons_of_pos (p := fun i => stays c (i + 1)) h]; rfl
  · rw [if_neg h, List.filter_cons_of_neg (p := fun i => stays c (i + 1)) h]; rfl
theorem staL_len (c : List UInt8) (k : Nat) : (staL c k).length ≤ k := by
  rw [staL, List.length_map]
  exact Nat.le_trans (List.length_filter_le _ _) (by simp)
theorem places_st {n : Nat} {c : List UInt8} (h : IsChange n c) : staL c n = plC c := by
  have hm := by_mask (P := fun n bs => staL (chgOfB bs) n = plC (chgOfB bs)) (by decide +kernel) h
  rw [← change_mask h] at hm
  exact hm
def putM (n : Nat) (l : List Int) : List Int := (l.map fun x => (n : Int) + 1 - x).reverse
theorem putM_snoc (n : Nat) (l : List Int) (i : Nat) (h : i < l.length) : putM n (l.take (i + 1)) = ((n : Int) + 1 - l.getD i 0) :: putM n (l.take i) := by
  rw [putM, List.take_add_one, List.getElem?_eq_getElem h, List.getD_eq_getElem?_getD, List.getElem?_eq_getElem h, List.map_append, List.reverse_append]
  rfl
def upOk (n : Nat) (l : List Int) : Bool := (List.range l.length).all fun i => (putM n (l.take i)).all fun x => decide ((n : Int) + 1 - l.getD i 0 < x)
theorem mir_put {n : Nat} {c : List UInt8} (h : IsChange n c) : (∀ i < (plC c).length, ∀ x ∈ putM n ((plC c).take i), (n : Int) + 1 - (plC c).getD i 0 < x) ∧ ofL (putM n (plC c)) = mirC n c := by
  have hm := by_mask (P := fun n bs => upOk n (plC (chgOfB bs)) = true ∧ ofL (putM n (plC (chgOfB bs))) = mirC n (chgOfB bs)) (by decide +kernel) h
  rw [← change_mask h] at hm
  refine ⟨fun i hi x hx => ?_, hm.2⟩
  have h1 := hm.1
  simp only [upOk, List.all_eq_true, List.mem_range, decide_eq_true_eq] at h1
  exact h1 i hi x hx
theorem sl1Put_ok (v : Value) (l : List Int) (n : Int) (hl : l.length ≤ 1000000) (hn : ∀ x ∈ l, n < x) (w : World) (h : Sq fI 1 w v l) : Fn 163 [v, .int .i64 n] w (fun r w' => Own fI 1 3 w.heap.size w' r (n :: l)) := by
  (refine callsV_of mix Try.func163 c_sl1Put ?_; simp only [↓vsd, vsn, gW, qd, qv, ev, pick, argE, List.map_cons, List.map_nil, Option.map_some, Option.map_none, zipE, List.cons_append, List.nil_append, ne_eq, eq_self, forall_const, implies_true, if_true, if_false, reduceIte, List.cons.injEq, reduceCtorEq, Nat.reduceEqDiff, List.length_nil, List.length_cons, Nat.reduceAdd, Nat.reduceLT, List.set_cons_zero, List.set_cons_succ, ↓us_sl1Put, r_sl1Put])
  refine m_upto 0 (fun k vs w' => vs = [.int .i64 k] ∧ Ext w w') ⟨rfl, Ext.refl _⟩ ?_
  rintro k vs w1 hk ⟨rfl, hx⟩
  obtain rfl : k = 0 := by omega
  have hq := h.ext hx
  by_cases h0 : 0 < l.length
  · have hI : ((0 : Nat) : Int) < l.length := by omega
    have hy := hn _ (getD_mem 0 h0)
    have hyI : ¬ l.getD 0 0 < n := by omega
    have hyE : ¬ l.getD 0 0 = n := by omega
    simp only [↓vsd, vsn, gW, qd, qv, ev, pick, argE, List.map_cons, List.map_nil, Option.map_some, Option.map_none, zipE, List.cons_append, List.nil_append, ne_eq, eq_self, forall_const, implies_true, if_true, if_false, reduceIte, List.cons.injEq, reduceCtorEq, Nat.reduceEqDiff, List.length_nil, List.length_cons, Nat.reduceAdd, Nat.reduceLT, List.set_cons_zero, List.set_cons_succ, ↓us_sl1Put, r_sl1Put, hq.facts, hq.at1 0 h0, hI, hyI, hyE]
    refine ⟨by omega, by omega, ?_⟩
    refine m_bsl (fun _ hm => by cases hm) ?_
    rintro b2 w2 hb2 hblk2 hx2 hs2
    have hq2 := hq.ext hx2
    have hh2 := hq2.headS .i64 0 (Nat.zero_le _)
    simp only [↓vsd, vsn, gW, qd, qv, ev, pick, argE, List.map_cons, List.map_nil, Option.map_some, Option.map_none, zipE, List.cons_append, List.nil_append, ne_eq, eq_self, forall_const, implies_true, if_true, if_false, reduceIte, List.cons.injEq, reduceCtorEq, Nat.reduceEqDiff, List.length_nil, List.length_cons, Nat.reduceAdd, Nat.reduceLT, List.set_cons_zero, List.set_cons_succ, ↓us_sl1Put, r_sl1Put, hh2.1]
    have ho2 : Own fI 1 3 w.heap.size w2 (.slice (some ⟨b2, 0, none⟩) 0 0) ([] : List Int) := (Own.empty fI_len hblk2 (by have := hx.size; omega)).to (by simp)
    refine m_app ho2 hh2.2 fI_one (by decide) (by simp) (by decide) ((hx.trans hx2).size) ?_
    rintro x3 w3 ho3 hg3
    have hx3 := ho2.grown (hx.trans hx2) (Nat.le_refl _) hg3
    simp only [↓vsd, vsn, gW, qd, qv, ev, pick, argE, List.map_cons, List.map_nil, Option.map_some, Option.map_none, zipE, List.cons_append, List.nil_append, ne_eq, eq_self, forall_const, implies_true, if_true, if_false, reduceIte, List.cons.injEq, reduceCtorEq, Nat.reduceEqDiff, List.length_nil, List.length_cons, Nat.reduceAdd, Nat.reduceLT, List.set_cons_zero, List.set_cons_succ, ↓us_sl1Put, r_sl1Put]
    refine m_bsl (one_el rfl) ?_
    rintro b4 w4 hb4 hblk4 hx4 hs4
    simp only [↓vsd, vsn, gW, qd, qv, ev, pick, argE, List.map_cons, List.map_nil, Option.map_some, Option.map_none, zipE, List.cons_append, List.nil_append, ne_eq, eq_self, forall_const, implies_true, if_true, if_false, reduceIte, List.cons.injEq, reduceCtorEq, Nat.reduceEqDiff, List.length_nil, List.length_cons, Nat.reduceAdd, Nat.reduceLT, List.set_cons_zero, List.set_cons_succ, ↓us_sl1Put, r_sl1Put]
    refine m_app (ho3.ext hx4) (Sq.one fI_len hblk4 rfl) fI_one (by decide) (by simp) (by decide) ((hx3.trans hx4).size) ?_
    rintro x5 w5 ho5 hg5
    have hx5 := (ho3.ext hx4).grown (hx3.trans hx4) (Nat.le_refl _) hg5
    have hq5 := h.ext hx5
    have ht5 := hq5.tail .i64 0 (Nat.zero_le _)
    simp only [↓vsd, vsn, gW, qd, qv, ev, pick, argE, List.map_cons, List.map_nil, Option.map_some, Option.map_none, zipE, List.cons_append, List.nil_append, ne_eq, eq_self, forall_const, implies_true, if_true, if_false, reduceIte, List.cons.injEq, reduceCtorEq, Nat.reduceEqDiff, List.length_nil, List.length_cons, Nat.reduceAdd, Nat.reduceLT, List.set_cons_zero, List.set_cons_succ, ↓us_sl1Put, r_sl1Put, ht5.1]
    refine m_app ho5 ht5.2 fI_one (by decide) (by simp; omega) (by decide) hx5.size ?_
    rintro x6 w6 ho6 hg6
    have hx6 := ho5.grown hx5 (Nat.le_refl _) hg6
    simp only [↓vsd, vsn, gW, qd, qv, ev, pick, argE, List.map_cons, List.map_nil, Option.map_some, Option.map_none, zipE, List.cons_append, List.nil_append, ne_eq, eq_self, forall_const, implies_true, if_true, if_false, reduceIte, List.cons.injEq, reduceCtorEq, Nat.reduceEqDiff, List.length_nil, List.length_cons, Nat.reduceAdd, Nat.reduceLT, List.set_cons_zero, List.set_cons_succ, ↓us_sl1Put, r_sl1Put]
    exact ⟨hx6, ho6.to (by simp)⟩
  · have hI : ¬ ((0 : Nat) : Int) < l.length := by omega
    simp only [↓vsd, vsn, gW, qd, qv, ev, pick, argE, List.map_cons, List.map_nil, Option.map_some, Option.map_none, zipE, List.cons_append, List.nil_append, ne_eq, eq_self, forall_const, implies_true, if_true, if_false, reduceIte, List.cons.injEq, reduceCtorEq, Nat.reduceEqDiff, List.length_nil, List.length_cons, Nat.reduceAdd, Nat.reduceLT, List.set_cons_zero, List.set_cons_succ, ↓us_sl1Put, r_sl1Put, hq.facts, hI]
    refine m_bsl (fun _ hm => by cases hm) ?_
    rintro b2 w2 hb2 hblk2 hx2 hs2
    have hq2 := hq.ext hx2
    have hh2 := hq2.headS .i64 0 (Nat.zero_le _)
    simp only [↓vsd, vsn, gW, qd, qv, ev, pick, argE, List.map_cons, List.map_nil, Option.map_some, Option.map_none, zipE, List.cons_append, List.nil_append, ne_eq, eq_self, forall_const, implies_true, if_true, if_false, reduceIte, List.cons.injEq, reduceCtorEq, Nat.reduceEqDiff, List.length_nil, List.length_cons, Nat.reduceAdd, Nat.reduceLT, List.set_cons_zero, List.set_cons_succ, ↓us_sl1Put, r_sl1Put, hh2.1]
    have ho2 : Own fI 1 3 w.heap.size w2 (.slice (some ⟨b2, 0, none⟩) 0 0) ([] : List Int) := (Own.empty fI_len hblk2 (by have := hx.size; omega)).to (by simp)
    refine m_app ho2 hh2.2 fI_one (by decide) (by simp) (by decide) ((hx.trans hx2).size) ?_
    rintro x3 w3 ho3 hg3
    have hx3 := ho2.grown (hx.trans hx2) (Nat.le_refl _) hg3
    simp only [↓vsd, vsn, gW, qd, qv, ev, pick, argE, List.map_cons, List.map_nil, Option.map_some, Option.map_none, zipE, List.cons_append, List.nil_append, ne_eq, eq_self, forall_const, implies_true, if_true, if_false, reduceIte, List.cons.injEq, reduceCtorEq, Nat.reduceEqDiff, List.length_nil, List.length_cons, Nat.reduceAdd, Nat.reduceLT, List.set_cons_zero, List.set_cons_succ, ↓us_sl1Put, r_sl1Put]
    refine m_bsl (one_el rfl) ?_
    rintro b4 w4 hb4 hblk4 hx4 hs4
    simp only [↓vsd, vsn, gW, qd, qv, ev, pick, argE, List.map_cons, List.map_nil, Option.map_some, Option.map_none, zipE, List.cons_append, List.nil_append, ne_eq, eq_self, forall_const, implies_true, if_true, if_false, reduceIte, List.cons.injEq, reduceCtorEq, Nat.reduceEqDiff, List.length_nil, List.length_cons, Nat.reduceAdd, Nat.reduceLT, List.set_cons_zero, List.set_cons_succ, ↓us_sl1Put, r_sl1Put]
    refine m_app (ho3.ext hx4) (Sq.one fI_len hblk4 rfl) fI_one (by decide) (by simp) (by decide) ((hx3.trans hx4).size) ?_
    rintro x5 w5 ho5 hg5
    have hx5 := (ho3.ext hx4).grown (hx3.trans hx4) (Nat.le_refl _) hg5
    have hq5 := h.ext hx5
    have ht5 := hq5.tail .i64 0 (Nat.zero_le _)
    simp only [↓vsd, vsn, gW, qd, qv, ev, pick, argE, List.map_cons, List.map_nil, Option.map_some, Option.map_none, zipE, List.cons_append, List.nil_append, ne_eq, eq_self, forall_const, implies_true, if_true, if_false, reduceIte, List.cons.injEq, reduceCtorEq, Nat.reduceEqDiff, List.length_nil, List.length_cons, Nat.reduceAdd, Nat.reduceLT, List.set_cons_zero, List.set_cons_succ, ↓us_sl1Put, r_sl1Put, ht5.1]
    refine m_app ho5 ht5.2 fI_one (by decide) (by simp; omega) (by decide) hx5.size ?_
    rintro x6 w6 ho6 hg6
    have hx6 := ho5.grown hx5 (Nat.le_refl _) hg6
    simp only [↓vsd, vsn, gW, qd, qv, ev, pick, argE, List.map_cons, List.map_nil, Option.map_some, Option.map_none, zipE, List.cons_append, List.nil_append, ne_eq, eq_self, forall_const, implies_true, if_true, if_false, reduceIte, List.cons.injEq, reduceCtorEq, Nat.reduceEqDiff, List.length_nil, List.length_cons, Nat.reduceAdd, Nat.reduceLT, List.set_cons_zero, List.set_cons_succ, ↓us_sl1Put, r_sl1Put]
    exact ⟨hx6, ho6.to (by simp)⟩
theorem sl2Places_ok (n : Nat) (c : List UInt8) (h : IsChange n c) (hc : c.length ≤ 1048576) (w : World) : Fn 162 [.int .i64 n, S c] w (fun r w' => Own fI 1 3 w.heap.size w' r (plC c)) := by
  have h8 := h.1
  have hps := places_st h
  (refine callsV_of mix Try.func162 c_sl2Places ?_; simp only [↓vsd, vsn, gW, qd, qv, ev, pick, argE, List.map_cons, List.map_nil, Option.map_some, Option.map_none, zipE, List.cons_append, List.nil_append, ne_eq, eq_self, forall_const, implies_true, if_true, if_false, reduceIte, List.cons.injEq, reduceCtorEq, Nat.reduceEqDiff, List.length_nil, List.length_cons, Nat.reduceAdd, Nat.reduceLT, List.set_cons_zero, List.set_cons_succ, ↓us_sl2Places, r_sl2Places])
  refine m_upto n (fun i vs w' => ∃ x, vs = [x, .int .i64 (i + 1 : Nat)] ∧ Own fI 1 3 w.heap.size w' x (staL c i) ∧ Ext w w') ⟨_, rfl, (Own.nil fI_len).to (by simp [staL]), Ext.refl _⟩ ?_
  rintro i vs w1 hi ⟨x, rfl, ho, hx⟩
  simp only [↓vsd, vsn, gW, qd, qv, ev, pick, argE, List.map_cons, List.map_nil, Option.map_some, Option.map_none, zipE, List.cons_append, List.nil_append, ne_eq, eq_self, forall_const, implies_true, if_true, if_false, reduceIte, List.cons.injEq, reduceCtorEq, Nat.reduceEqDiff, List.length_nil, List.length_cons, Nat.reduceAdd, Nat.reduceLT, List.set_cons_zero, List.set_cons_succ, ↓us_sl2Places, r_sl2Places]
  refine ⟨fun hle => ?_, fun hgt => ?_⟩
  · have hlt : i < n := by omega
    refine m_call (sl2Stays_ok c (i + 1) hc (by omega) _) ?_
    rintro _ w2 hx2 rfl
    have ho2 := ho.ext hx2
    have hx12 := hx.trans hx2
    have hll := staL_len c i
    by_cases hs : stays c (i + 1) = true
    · simp only [↓vsd, vsn, gW, qd, qv, ev, pick, argE, List.map_cons, List.map_nil, Option.map_some, Option.map_none, zipE, List.cons_append, List.nil_append, ne_eq, eq_self, forall_const, implies_true, if_true, if_false, reduceIte, List.cons.injEq, reduceCtorEq, Nat.reduceEqDiff, List.length_nil, List.length_cons, Nat.reduceAdd, Nat.reduceLT, List.set_cons_zero, List.set_cons_succ, ↓us_sl2Places, r_sl2Places, hs]
      refine m_bsl (one_el rfl) ?_
      rintro b3 w3 hb3 hblk3 hx3 hs3
      simp only [↓vsd, vsn, gW, qd, qv, ev, pick, argE, List.map_cons, List.map_nil, Option.map_some, Option.map_none, zipE, List.cons_append, List.nil_append, ne_eq, eq_self, forall_const, implies_true, if_true, if_false, reduceIte, List.cons.injEq, reduceCtorEq, Nat.reduceEqDiff, List.length_nil, List.length_cons, Nat.reduceAdd, Nat.reduceLT, List.set_cons_zero, List.set_cons_succ, ↓us_sl2Places, r_sl2Places]
      refine m_app (ho2.ext hx3) (Sq.one fI_len hblk3 rfl) fI_one (by decide) (by simp; omega) (by decide) (hx12.trans hx3).size ?_
      rintro y w4 ho4 hg4
      have hx4 := (ho2.ext hx3).grown (hx12.trans hx3) (Nat.le_refl _) hg4
      simp only [↓vsd, vsn, gW, qd, qv, ev, pick, argE, List.map_cons, List.map_nil, Option.map_some, Option.map_none, zipE, List.cons_append, List.nil_append, ne_eq, eq_self, forall_const, implies_true, if_true, if_false, reduceIte, List.cons.injEq, reduceCtorEq, Nat.reduceEqDiff, List.length_nil, List.length_cons, Nat.reduceAdd, Nat.reduceLT, List.set_cons_zero, List.set_cons_succ, ↓us_sl2Places, r_sl2Places]
      refine ⟨inR_i64 (by omega), UpTo.next hlt ⟨y, rfl, ho4.to ?_, hx4⟩⟩
      rw [staL_succ, if_pos hs]; rfl
    · have hs' : stays c (i + 1) = false := by simpa using hs
      simp only [↓vsd, vsn, gW, qd, qv, ev, pick, argE, List.map_cons, List.map_nil, Option.map_some, Option.map_none, zipE, List.cons_append, List.nil_append, ne_eq, eq_self, forall_const, implies_true, if_true, if_false, reduceIte, List.cons.injEq, reduceCtorEq, Nat.reduceEqDiff, List.length_nil, List.length_cons, Nat.reduceAdd, Nat.reduceLT, List.set_cons_zero, List.set_cons_succ, ↓us_sl2Places, r_sl2Places, hs']
      refine ⟨inR_i64 (by omega), UpTo.next hlt ⟨x, rfl, ho2.to ?_, hx12⟩⟩
      rw [staL_succ, if_neg hs, List.append_nil]
  · obtain rfl : i = n := by omega
    exact ⟨hx, ho.to hps⟩
theorem sMirrorChange_ok (n : Int) (c : List UInt8) (hc : c.length ≤ 1048576) (w : World) : Fn 26 [.int .i64 n, S c] w (fun r _ => r = mirV n c) := by
  (refine callsV_of mix Try.func26 c_sMirrorChange ?_; simp only [↓vsd, vsn, gW, qd, qv, ev, pick, argE, List.map_cons, List.map_nil, Option.map_some, Option.map_none, zipE, List.cons_append, List.nil_append, ne_eq, eq_self, forall_const, implies_true, if_true, if_false, reduceIte, List.cons.injEq, reduceCtorEq, Nat.reduceEqDiff, List.length_nil, List.length_cons, Nat.reduceAdd, Nat.reduceLT, List.set_cons_zero, List.set_cons_succ, ↓us_sMirrorChange, r_sMirrorChange])
  refine m_call (sl2Change_ok n c hc _) ?_
  rintro _ w1 hx1 rfl
  by_cases h : IsChange n c
  · obtain ⟨k, rfl⟩ : ∃ k : Nat, n = k := ⟨n.toNat, by have := h.1; omega⟩
    simp only [↓vsd, vsn, gW, qd, qv, ev, pick, argE, List.map_cons, List.map_nil, Option.map_some, Option.map_none, zipE, List.cons_append, List.nil_append, ne_eq, eq_self, forall_const, implies_true, if_true, if_false, reduceIte, List.cons.injEq, reduceCtorEq, Nat.reduceEqDiff, List.length_nil, List.length_cons, Nat.reduceAdd, Nat.reduceLT, List.set_cons_zero, List.set_cons_succ, ↓us_sMirrorChange, r_sMirrorChange, h]
    refine m_call (sl2Places_ok k c h hc _) ?_
    rintro x w2 hx2 ho2
    simp only [↓vsd, vsn, gW, qd, qv, ev, pick, argE, List.map_cons, List.map_nil, Option.map_some, Option.map_none, zipE, List.cons_append, List.nil_append, ne_eq, eq_self, forall_const, implies_true, if_true, if_false, reduceIte, List.cons.injEq, reduceCtorEq, Nat.reduceEqDiff, List.length_nil, List.length_cons, Nat.reduceAdd, Nat.reduceLT, List.set_cons_zero, List.set_cons_succ, ↓us_sMirrorChange, r_sMirrorChange, ho2.sq.facts]
    have h8 := h.1
    have hpf := (pairs_facts h).2.2.1
    have hlen := (pairs_facts h).1
    obtain ⟨hup, hmo⟩ := mir_put h
    generalize hL : plC c = L at *
    refine m_upto L.length (fun i vs w' => ∃ y, vs = [y, .int .i64 i] ∧ Own fI 1 3 w2.heap.size w' y (putM k (L.take i)) ∧ Ext w2 w') ⟨_, rfl, (Own.nil fI_len).to rfl, Ext.refl _⟩ ?_
    rintro i vs w3 hi ⟨y, rfl, hoy, hx⟩
    have hq := ho2.sq.ext hx
    have hol : (putM k (L.take i)).length ≤ i := by rw [putM, List.length_reverse, List.length_map, List.length_take]; omega
    by_cases hlt : i < L.length
    · have hltI : (i : Int) < L.length := by omega
      have hltJ : ¬ (L.length : Int) ≤ i := by omega
      have hp := hpf _ (getD_mem 0 hlt)
      have hs := putM_snoc k L i hlt
      simp only [↓vsd, vsn, gW, qd, qv, ev, pick, argE, List.map_cons, List.map_nil, Option.map_some, Option.map_none, zipE, List.cons_append, List.nil_append, ne_eq, eq_self, forall_const, implies_true, if_true, if_false, reduceIte, List.cons.injEq, reduceCtorEq, Nat.reduceEqDiff, List.length_nil, List.length_cons, Nat.reduceAdd, Nat.reduceLT, List.set_cons_zero, List.set_cons_succ, ↓us_sMirrorChange, r_sMirrorChange, hltI, hltJ, hq.facts, hq.at1 0 hlt]
      refine ⟨by omega, inR_i64 (by omega), inR_i64 (by omega), m_call (sl1Put_ok y _ _ (by omega) (hup i hlt) _ hoy.sq) ?_⟩
      rintro z w4 hx4 hoz
      simp only [↓vsd, vsn, gW, qd, qv, ev, pick, argE, List.map_cons, List.map_nil, Option.map_some, Option.map_none, zipE, List.cons_append, List.nil_append, ne_eq, eq_self, forall_const, implies_true, if_true, if_false, reduceIte, List.cons.injEq, reduceCtorEq, Nat.reduceEqDiff, List.length_nil, List.length_cons, Nat.reduceAdd, Nat.reduceLT, List.set_cons_zero, List.set_cons_succ, ↓us_sMirrorChange, r_sMirrorChange]
      refine ⟨inR_i64 (by omega), UpTo.next hlt ⟨z, rfl, (hoz.mono hx.size).to hs.symm, hx.trans hx4⟩⟩
    · obtain rfl : i = L.length := by omega
      have hltI : ¬ (L.length : Int) < L.length := by omega
      simp only [↓vsd, vsn, gW, qd, qv, ev, pick, argE, List.map_cons, List.map_nil, Option.map_some, Option.map_none, zipE, List.cons_append, List.nil_append, ne_eq, eq_self, forall_const, implies_true, if_true, if_false, reduceIte, List.cons.injEq, reduceCtorEq, Nat.reduceEqDiff, List.length_nil, List.length_cons, Nat.reduceAdd, Nat.reduceLT, List.set_cons_zero, List.set_cons_succ, ↓us_sMirrorChange, r_sMirrorChange, hltI]
      refine m_call (sl2Of_ok y _ (by omega) ?_ _ hoy.sq) ?_
      · intro x hxm
        rw [putM, List.mem_reverse, List.take_length] at hxm
        obtain ⟨q, hqm, rfl⟩ := List.mem_map.1 hxm
        have := hpf q hqm
        omega
      rintro _ w4 hx4 rfl
      simp only [↓vsd, vsn, gW, qd, qv, ev, pick, argE, List.map_cons, List.map_nil, Option.map_some, Option.map_none, zipE, List.cons_append, List.nil_append, ne_eq, eq_self, forall_const, implies_true, if_true, if_false, reduceIte, List.cons.injEq, reduceCtorEq, Nat.reduceEqDiff, List.length_nil, List.length_cons, Nat.reduceAdd, Nat.reduceLT, List.set_cons_zero, List.set_cons_succ, ↓us_sMirrorChange, r_sMirrorChange]
      exact ⟨((hx1.trans hx2).trans hx).trans hx4, by rw [mirV, if_pos h, Int.toNat_natCast, ← hmo, List.take_length]⟩
  · simp only [↓vsd, vsn, gW, qd, qv, ev, pick, argE, List.map_cons, List.map_nil, Option.map_some, Option.map_none, zipE, List.cons_append, List.nil_append, ne_eq, eq_self, forall_const, implies_true, if_true, if_false, reduceIte, List.cons.injEq, reduceCtorEq, Nat.reduceEqDiff, List.length_nil, List.length_cons, Nat.reduceAdd, Nat.reduceLT, List.set_cons_zero, List.set_cons_succ, ↓us_sMirrorChange, r_sMirrorChange, h]
    exact ⟨hx1, by rw [mirV, if_neg h]⟩
end Go.Proofs.Ytjcnmobdlkmaeaa
