/-
  Products, inverses, powers and rounds of rows, as program and reference compute them.
  Conditions: none.
-/
import Derived.Test.YtnocgihggdgkeaaA10
import Derived.Test.YtnocgihggdgkeaaD2
set_option linter.unusedSimpArgs false
set_option linter.unusedVariables false
set_option linter.defProp false
namespace Go.Proofs.Ytnocgihggdgkeaa
open Go Go.RowKit
def t_iTimes_1 : X := (.cond (.t 15) (.seq (.reg [4, 5] (.c (.q 4 [] (.mv (.s []))) (.c (.q 5 [] (.mv (.c (.bool false)))) .nil))) .ret) .skip)
theorem u_iTimes_1 (P : Program) (k : KT) (e : Env) (w : World) : vcK P t_iTimes_1 k e w = vcK P (.cond (.t 15) (.seq (.reg [4, 5] (.c (.q 4 [] (.mv (.s []))) (.c (.q 5 [] (.mv (.c (.bool false)))) .nil))) .ret) .skip) k e w := rfl
def t_iTimes_2 : X := (.seq (.reg [4, 5] (.c (.q 16 [] (.mv (.t 0))) (.c (.q 17 [] (.mv (.t 1))) (.c (.e (some 18) [] (.call false 99 [(.t 16), (.t 17)])) (.c (.q 4 [] (.mv (.t 18))) (.c (.q 5 [] (.mv (.c (.bool true)))) .nil)))))) .ret)
theorem u_iTimes_2 (P : Program) (k : KT) (e : Env) (w : World) : vcK P t_iTimes_2 k e w = vcK P (.seq (.reg [4, 5] (.c (.q 16 [] (.mv (.t 0))) (.c (.q 17 [] (.mv (.t 1))) (.c (.e (some 18) [] (.call false 99 [(.t 16), (.t 17)])) (.c (.q 4 [] (.mv (.t 18))) (.c (.q 5 [] (.mv (.c (.bool true)))) .nil)))))) .ret) k e w := rfl
def t_iTimes_3 : X := (.seq (.seq (.reg [0, 1, 15] (.c (.q 6 [] (.mv (.t 0))) (.c (.e (some 7) [] (.call false 24 [(.t 6)])) (.c (.q 8 [] (.not (.t 7))) (.c (.q 9 [] (.mv (.t 8))) (.c (.q 10 [(9, false)] (.mv (.t 0))) (.c (.q 11 [(9, false)] (.len (.t 10))) (.c (.q 12 [(9, false)] (.mv (.t 1))) (.c (.e (some 13) [(9, false)] (.call false 98 [(.t 11), (.t 12)])) (.c (.q 14 [(9, false)] (.not (.t 13))) (.c (.q 15 [] (.pick (.t 9) (.c (.bool true)) (.t 14))) .nil))))))))))) t_iTimes_1) t_iTimes_2)
theorem u_iTimes_3 (P : Program) (k : KT) (e : Env) (w : World) : vcK P t_iTimes_3 k e w = vcK P (.seq (.seq (.reg [0, 1, 15] (.c (.q 6 [] (.mv (.t 0))) (.c (.e (some 7) [] (.call false 24 [(.t 6)])) (.c (.q 8 [] (.not (.t 7))) (.c (.q 9 [] (.mv (.t 8))) (.c (.q 10 [(9, false)] (.mv (.t 0))) (.c (.q 11 [(9, false)] (.len (.t 10))) (.c (.q 12 [(9, false)] (.mv (.t 1))) (.c (.e (some 13) [(9, false)] (.call false 98 [(.t 11), (.t 12)])) (.c (.q 14 [(9, false)] (.not (.t 13))) (.c (.q 15 [] (.pick (.t 9) (.c (.bool true)) (.t 14))) .nil))))))))))) t_iTimes_1) t_iTimes_2) k e w := rfl
def x_iTimes : X := (.seq (.reg [0, 1] (.c (.q 4 [] (.mv (.s []))) (.c (.q 5 [] (.mv (.c (.bool false)))) .nil))) t_iTimes_3)
theorem u_iTimes (P : Program) (k : KT) (e : Env) (w : World) : vcK P x_iTimes k e w = vcK P (.seq (.reg [0, 1] (.c (.q 4 [] (.mv (.s []))) (.c (.q 5 [] (.mv (.c (.bool false)))) .nil))) t_iTimes_3) k e w := rfl
def r_iTimes : List XO := [(.mv (.t 4)), (.mv (.t 5))]
theorem c_iTimes : convF Try.prog [95, 96, 97, 107, 117, 118, 128, 129, 134, 144, 145, 153, 156, 174, 175, 182] Try.f22 [([0, 1], []), ([0, 1, 15], []), ([4, 5], []), ([4, 5], [])] = some (x_iTimes, r_iTimes) := by kernel_rfl
def us_iTimes := And.intro @u_iTimes (And.intro @u_iTimes_1 (And.intro @u_iTimes_2 @u_iTimes_3))
def t_sTimes_1 : X := (.cond (.t 9) (.seq (.reg [4, 5] (.c (.q 4 [] (.mv (.s []))) (.c (.q 5 [] (.mv (.c (.bool false)))) .nil))) .ret) .skip)
theorem u_sTimes_1 (P : Program) (k : KT) (e : Env) (w : World) : vcK P t_sTimes_1 k e w = vcK P (.cond (.t 9) (.seq (.reg [4, 5] (.c (.q 4 [] (.mv (.s []))) (.c (.q 5 [] (.mv (.c (.bool false)))) .nil))) .ret) .skip) k e w := rfl
def t_sTimes_2 : X := (.seq (.reg [4, 5] (.c (.q 10 [] (.mv (.t 0))) (.c (.q 11 [] (.mv (.t 1))) (.c (.e (some 12) [] (.call false 101 [(.t 10), (.t 11)])) (.c (.q 4 [] (.mv (.t 12))) (.c (.q 5 [] (.mv (.c (.bool true)))) .nil)))))) .ret)
theorem u_sTimes_2 (P : Program) (k : KT) (e : Env) (w : World) : vcK P t_sTimes_2 k e w = vcK P (.seq (.reg [4, 5] (.c (.q 10 [] (.mv (.t 0))) (.c (.q 11 [] (.mv (.t 1))) (.c (.e (some 12) [] (.call false 101 [(.t 10), (.t 11)])) (.c (.q 4 [] (.mv (.t 12))) (.c (.q 5 [] (.mv (.c (.bool true)))) .nil)))))) .ret) k e w := rfl
def t_sTimes_3 : X := (.seq (.seq (.reg [0, 1, 9] (.c (.q 6 [] (.mv (.t 0))) (.c (.q 7 [] (.mv (.t 1))) (.c (.e (some 8) [] (.call false 100 [(.t 6), (.t 7)])) (.c (.q 9 [] (.not (.t 8))) .nil))))) t_sTimes_1) t_sTimes_2)
theorem u_sTimes_3 (P : Program) (k : KT) (e : Env) (w : World) : vcK P t_sTimes_3 k e w = vcK P (.seq (.seq (.reg [0, 1, 9] (.c (.q 6 [] (.mv (.t 0))) (.c (.q 7 [] (.mv (.t 1))) (.c (.e (some 8) [] (.call false 100 [(.t 6), (.t 7)])) (.c (.q 9 [] (.not (.t 8))) .nil))))) t_sTimes_1) t_sTimes_2) k e w := rfl
def x_sTimes : X := (.seq (.reg [0, 1] (.c (.q 4 [] (.mv (.s []))) (.c (.q 5 [] (.mv (.c (.bool false)))) .nil))) t_sTimes_3)
theorem u_sTimes (P : Program) (k : KT) (e : Env) (w : World) : vcK P x_sTimes k e w = vcK P (.seq (.reg [0, 1] (.c (.q 4 [] (.mv (.s []))) (.c (.q 5 [] (.mv (.c (.bool false)))) .nil))) t_sTimes_3) k e w := rfl
def r_sTimes : List XO := [(.mv (.t 4)), (.mv (.t 5))]
theorem c_sTimes : convF Try.prog [95, 96, 97, 107, 117, 118, 128, 129, 134, 144, 145, 153, 156, 174, 175, 182] Try.f23 [([0, 1], []), ([0, 1, 9], []), ([4, 5], []), ([4, 5], [])] = some (x_sTimes, r_sTimes) := by kernel_rfl
def us_sTimes := And.intro @u_sTimes (And.intro @u_sTimes_1 (And.intro @u_sTimes_2 @u_sTimes_3))
def t_sl1Two_1 : X := (.seq (.reg [4] (.c (.q 5 [] (.mv (.t 0))) (.c (.e (some 6) [] (.call false 103 [(.t 5)])) (.c (.q 7 [] (.mv (.t 6))) (.c (.q 8 [(7, true)] (.mv (.t 1))) (.c (.e (some 9) [(7, true)] (.call false 103 [(.t 8)])) (.c (.q 10 [] (.pick (.t 7) (.t 9) (.c (.bool false)))) (.c (.q 11 [] (.mv (.t 10))) (.c (.q 12 [(11, true)] (.mv (.t 0))) (.c (.q 13 [(11, true)] (.len (.t 12))) (.c (.q 14 [(11, true)] (.mv (.t 1))) (.c (.q 15 [(11, true)] (.len (.t 14))) (.c (.q 16 [(11, true)] (.bin .eql (.t 13) (.t 15))) (.c (.q 17 [] (.pick (.t 11) (.t 16) (.c (.bool false)))) (.c (.q 4 [] (.mv (.t 17))) .nil))))))))))))))) .ret)
theorem u_sl1Two_1 (P : Program) (k : KT) (e : Env) (w : World) : vcK P t_sl1Two_1 k e w = vcK P (.seq (.reg [4] (.c (.q 5 [] (.mv (.t 0))) (.c (.e (some 6) [] (.call false 103 [(.t 5)])) (.c (.q 7 [] (.mv (.t 6))) (.c (.q 8 [(7, true)] (.mv (.t 1))) (.c (.e (some 9) [(7, true)] (.call false 103 [(.t 8)])) (.c (.q 10 [] (.pick (.t 7) (.t 9) (.c (.bool false)))) (.c (.q 11 [] (.mv (.t 10))) (.c (.q 12 [(11, true)] (.mv (.t 0))) (.c (.q 13 [(11, true)] (.len (.t 12))) (.c (.q 14 [(11, true)] (.mv (.t 1))) (.c (.q 15 [(11, true)] (.len (.t 14))) (.c (.q 16 [(11, true)] (.bin .eql (.t 13) (.t 15))) (.c (.q 17 [] (.pick (.t 11) (.t 16) (.c (.bool false)))) (.c (.q 4 [] (.mv (.t 17))) .nil))))))))))))))) .ret) k e w := rfl
def x_sl1Two : X := (.seq (.reg [0, 1] (.c (.q 4 [] (.mv (.c (.bool false)))) .nil)) t_sl1Two_1)
theorem u_sl1Two (P : Program) (k : KT) (e : Env) (w : World) : vcK P x_sl1Two k e w = vcK P (.seq (.reg [0, 1] (.c (.q 4 [] (.mv (.c (.bool false)))) .nil)) t_sl1Two_1) k e w := rfl
def r_sl1Two : List XO := [(.mv (.t 4))]
theorem c_sl1Two : convF Try.prog [95, 96, 97, 107, 117, 118, 128, 129, 134, 144, 145, 153, 156, 174, 175, 182] Try.f100 [([0, 1], []), ([4], [])] = some (x_sl1Two, r_sl1Two) := by kernel_rfl
def us_sl1Two := And.intro @u_sl1Two @u_sl1Two_1
def t_iturned_1 : X := (.reg [0, 3, 9, 10] (.c (.q 13 [] (.mv (.t 3))) (.c (.q 14 [] (.mv (.t 0))) (.c (.q 15 [] (.mv (.t 4))) (.c (.q 16 [] (.idx (.t 14) (.t 15))) (.c (.q 17 [] (.bin .sub (.t 16) (.c (.int .u8 49)))) (.c (.q 18 [] (.mv (.t 4))) (.c (.q 19 [] (.bin .add (.c (.int .i64 49)) (.t 18))) (.c (.q 20 [] (.cvi .u8 (.t 19))) (.c (.q 21 [] (.ia 1 (.t 13) (.t 17))) (.c (.e none [] (.st 1 (.t 21) (.t 20))) .nil)))))))))))
theorem u_iturned_1 (P : Program) (k : KT) (e : Env) (w : World) : vcK P t_iturned_1 k e w = vcK P (.reg [0, 3, 9, 10] (.c (.q 13 [] (.mv (.t 3))) (.c (.q 14 [] (.mv (.t 0))) (.c (.q 15 [] (.mv (.t 4))) (.c (.q 16 [] (.idx (.t 14) (.t 15))) (.c (.q 17 [] (.bin .sub (.t 16) (.c (.int .u8 49)))) (.c (.q 18 [] (.mv (.t 4))) (.c (.q 19 [] (.bin .add (.c (.int .i64 49)) (.t 18))) (.c (.q 20 [] (.cvi .u8 (.t 19))) (.c (.q 21 [] (.ia 1 (.t 13) (.t 17))) (.c (.e none [] (.st 1 (.t 21) (.t 20))) .nil))))))))))) k e w := rfl
def t_iturned_2 : X := (.reg [0, 3, 9, 10] (.c (.q 22 [] (.bin .add (.t 10) (.c (.int .i64 1)))) (.c (.q 10 [] (.mv (.t 22))) .nil)))
theorem u_iturned_2 (P : Program) (k : KT) (e : Env) (w : World) : vcK P t_iturned_2 k e w = vcK P (.reg [0, 3, 9, 10] (.c (.q 22 [] (.bin .add (.t 10) (.c (.int .i64 1)))) (.c (.q 10 [] (.mv (.t 22))) .nil))) k e w := rfl
def t_iturned_3 : X := (.seq (.blk 1 (.seq (.reg [0, 3, 4, 9, 10] (.c (.q 12 [] (.mv (.t 10))) (.c (.q 4 [] (.mv (.t 12))) .nil))) t_iturned_1)) t_iturned_2)
theorem u_iturned_3 (P : Program) (k : KT) (e : Env) (w : World) : vcK P t_iturned_3 k e w = vcK P (.seq (.blk 1 (.seq (.reg [0, 3, 4, 9, 10] (.c (.q 12 [] (.mv (.t 10))) (.c (.q 4 [] (.mv (.t 12))) .nil))) t_iturned_1)) t_iturned_2) k e w := rfl
def t_iturned_4 : X := (.seq (.cond (.t 11) .skip (.exit 0)) t_iturned_3)
theorem u_iturned_4 (P : Program) (k : KT) (e : Env) (w : World) : vcK P t_iturned_4 k e w = vcK P (.seq (.cond (.t 11) .skip (.exit 0)) t_iturned_3) k e w := rfl
def t_iturned_5 : X := (.seq (.reg [0, 3, 9, 10, 11] (.c (.q 11 [] (.bin .lss (.t 10) (.t 9))) .nil)) t_iturned_4)
theorem u_iturned_5 (P : Program) (k : KT) (e : Env) (w : World) : vcK P t_iturned_5 k e w = vcK P (.seq (.reg [0, 3, 9, 10, 11] (.c (.q 11 [] (.bin .lss (.t 10) (.t 9))) .nil)) t_iturned_4) k e w := rfl
def t_iturned_6 : X := (.blk 0 (.loop [10] [0, 3, 9] t_iturned_5))
theorem u_iturned_6 (P : Program) (k : KT) (e : Env) (w : World) : vcK P t_iturned_6 k e w = vcK P (.blk 0 (.loop [10] [0, 3, 9] t_iturned_5)) k e w := rfl
def t_iturned_7 : X := (.seq (.reg [2] (.c (.q 23 [] (.mv (.t 3))) (.c (.e (some 24) [] (.b2s (.t 23))) (.c (.q 2 [] (.mv (.t 24))) .nil)))) .ret)
theorem u_iturned_7 (P : Program) (k : KT) (e : Env) (w : World) : vcK P t_iturned_7 k e w = vcK P (.seq (.reg [2] (.c (.q 23 [] (.mv (.t 3))) (.c (.e (some 24) [] (.b2s (.t 23))) (.c (.q 2 [] (.mv (.t 24))) .nil)))) .ret) k e w := rfl
def t_iturned_8 : X := (.seq (.seq (.reg [0, 3, 9, 10] (.c (.q 8 [] (.mv (.t 3))) (.c (.q 9 [] (.lens (.t 8))) (.c (.q 10 [] (.mv (.c (.int .i64 0)))) .nil)))) t_iturned_6) t_iturned_7)
theorem u_iturned_8 (P : Program) (k : KT) (e : Env) (w : World) : vcK P t_iturned_8 k e w = vcK P (.seq (.seq (.reg [0, 3, 9, 10] (.c (.q 8 [] (.mv (.t 3))) (.c (.q 9 [] (.lens (.t 8))) (.c (.q 10 [] (.mv (.c (.int .i64 0)))) .nil)))) t_iturned_6) t_iturned_7) k e w := rfl
def t_iturned_9 : X := (.seq (.reg [0, 3] (.c (.q 5 [] (.mv (.t 0))) (.c (.q 6 [] (.len (.t 5))) (.c (.e (some 7) [] (.msl 28 5 1 1 [(.int .u8 0)] (.t 6) (.t 6))) (.c (.q 3 [] (.mv (.t 7))) .nil))))) t_iturned_8)
theorem u_iturned_9 (P : Program) (k : KT) (e : Env) (w : World) : vcK P t_iturned_9 k e w = vcK P (.seq (.reg [0, 3] (.c (.q 5 [] (.mv (.t 0))) (.c (.q 6 [] (.len (.t 5))) (.c (.e (some 7) [] (.msl 28 5 1 1 [(.int .u8 0)] (.t 6) (.t 6))) (.c (.q 3 [] (.mv (.t 7))) .nil))))) t_iturned_8) k e w := rfl
def x_iturned : X := (.seq (.reg [0] (.c (.q 2 [] (.mv (.s []))) .nil)) t_iturned_9)
theorem u_iturned (P : Program) (k : KT) (e : Env) (w : World) : vcK P x_iturned k e w = vcK P (.seq (.reg [0] (.c (.q 2 [] (.mv (.s []))) .nil)) t_iturned_9) k e w := rfl
def r_iturned : List XO := [(.mv (.t 2))]
theorem c_iturned : convF Try.prog [95, 96, 97, 107, 117, 118, 128, 129, 134, 144, 145, 153, 156, 174, 175, 182] Try.f105 [([0], []), ([0, 3], []), ([0, 3, 9, 10], []), ([10], [0, 3, 9]), ([0, 3, 9, 10, 11], []), ([0, 3, 4, 9, 10], []), ([0, 3, 9, 10], []), ([0, 3, 9, 10], []), ([2], [])] = some (x_iturned, r_iturned) := by kernel_rfl
def us_iturned := And.intro @u_iturned (And.intro @u_iturned_1 (And.intro @u_iturned_2 (And.intro @u_iturned_3 (And.intro @u_iturned_4 (And.intro @u_iturned_5 (And.intro @u_iturned_6 (And.intro @u_iturned_7 (And.intro @u_iturned_8 @u_iturned_9))))))))
def t_sl1Turn_1 : X := (.cond (.t 10) .skip (.exit 0))
theorem u_sl1Turn_1 (P : Program) (k : KT) (e : Env) (w : World) : vcK P t_sl1Turn_1 k e w = vcK P (.cond (.t 10) .skip (.exit 0)) k e w := rfl
def t_sl1Turn_2 : X := (.reg [0, 3, 4] (.c (.q 11 [] (.mv (.t 4))) (.c (.q 12 [] (.bin .add (.t 11) (.c (.int .i64 1)))) (.c (.q 4 [] (.mv (.t 12))) .nil))))
theorem u_sl1Turn_2 (P : Program) (k : KT) (e : Env) (w : World) : vcK P t_sl1Turn_2 k e w = vcK P (.reg [0, 3, 4] (.c (.q 11 [] (.mv (.t 4))) (.c (.q 12 [] (.bin .add (.t 11) (.c (.int .i64 1)))) (.c (.q 4 [] (.mv (.t 12))) .nil)))) k e w := rfl
def t_sl1Turn_3 : X := (.seq (.blk 1 (.reg [0, 3, 4] (.c (.q 13 [] (.mv (.t 3))) (.c (.q 14 [] (.mv (.t 0))) (.c (.q 15 [] (.mv (.t 4))) (.c (.e (some 16) [] (.call false 115 [(.t 14), (.t 15)])) (.c (.q 17 [] (.bin .sub (.t 16) (.c (.int .i64 1)))) (.c (.q 18 [] (.mv (.t 4))) (.c (.q 19 [] (.bin .add (.c (.int .i64 48)) (.t 18))) (.c (.q 20 [] (.cvi .u8 (.t 19))) (.c (.q 21 [] (.ia 1 (.t 13) (.t 17))) (.c (.e none [] (.st 1 (.t 21) (.t 20))) .nil)))))))))))) t_sl1Turn_2)
theorem u_sl1Turn_3 (P : Program) (k : KT) (e : Env) (w : World) : vcK P t_sl1Turn_3 k e w = vcK P (.seq (.blk 1 (.reg [0, 3, 4] (.c (.q 13 [] (.mv (.t 3))) (.c (.q 14 [] (.mv (.t 0))) (.c (.q 15 [] (.mv (.t 4))) (.c (.e (some 16) [] (.call false 115 [(.t 14), (.t 15)])) (.c (.q 17 [] (.bin .sub (.t 16) (.c (.int .i64 1)))) (.c (.q 18 [] (.mv (.t 4))) (.c (.q 19 [] (.bin .add (.c (.int .i64 48)) (.t 18))) (.c (.q 20 [] (.cvi .u8 (.t 19))) (.c (.q 21 [] (.ia 1 (.t 13) (.t 17))) (.c (.e none [] (.st 1 (.t 21) (.t 20))) .nil)))))))))))) t_sl1Turn_2) k e w := rfl
def t_sl1Turn_4 : X := (.seq (.seq (.reg [0, 3, 4, 10] (.c (.q 7 [] (.mv (.t 4))) (.c (.q 8 [] (.mv (.t 0))) (.c (.q 9 [] (.len (.t 8))) (.c (.q 10 [] (.bin .leq (.t 7) (.t 9))) .nil))))) t_sl1Turn_1) t_sl1Turn_3)
theorem u_sl1Turn_4 (P : Program) (k : KT) (e : Env) (w : World) : vcK P t_sl1Turn_4 k e w = vcK P (.seq (.seq (.reg [0, 3, 4, 10] (.c (.q 7 [] (.mv (.t 4))) (.c (.q 8 [] (.mv (.t 0))) (.c (.q 9 [] (.len (.t 8))) (.c (.q 10 [] (.bin .leq (.t 7) (.t 9))) .nil))))) t_sl1Turn_1) t_sl1Turn_3) k e w := rfl
def t_sl1Turn_5 : X := (.blk 0 (.loop [4] [0, 3] t_sl1Turn_4))
theorem u_sl1Turn_5 (P : Program) (k : KT) (e : Env) (w : World) : vcK P t_sl1Turn_5 k e w = vcK P (.blk 0 (.loop [4] [0, 3] t_sl1Turn_4)) k e w := rfl
def t_sl1Turn_6 : X := (.seq (.reg [2] (.c (.q 22 [] (.mv (.t 3))) (.c (.e (some 23) [] (.b2s (.t 22))) (.c (.q 2 [] (.mv (.t 23))) .nil)))) .ret)
theorem u_sl1Turn_6 (P : Program) (k : KT) (e : Env) (w : World) : vcK P t_sl1Turn_6 k e w = vcK P (.seq (.reg [2] (.c (.q 22 [] (.mv (.t 3))) (.c (.e (some 23) [] (.b2s (.t 22))) (.c (.q 2 [] (.mv (.t 23))) .nil)))) .ret) k e w := rfl
def t_sl1Turn_7 : X := (.seq (.seq (.reg [0, 3, 4] (.c (.q 4 [] (.mv (.c (.int .i64 1)))) .nil)) t_sl1Turn_5) t_sl1Turn_6)
theorem u_sl1Turn_7 (P : Program) (k : KT) (e : Env) (w : World) : vcK P t_sl1Turn_7 k e w = vcK P (.seq (.seq (.reg [0, 3, 4] (.c (.q 4 [] (.mv (.c (.int .i64 1)))) .nil)) t_sl1Turn_5) t_sl1Turn_6) k e w := rfl
def t_sl1Turn_8 : X := (.seq (.reg [0, 3] (.c (.q 5 [] (.mv (.t 0))) (.c (.e (some 6) [] (.s2b 5 (.t 5))) (.c (.q 3 [] (.mv (.t 6))) .nil)))) t_sl1Turn_7)
theorem u_sl1Turn_8 (P : Program) (k : KT) (e : Env) (w : World) : vcK P t_sl1Turn_8 k e w = vcK P (.seq (.reg [0, 3] (.c (.q 5 [] (.mv (.t 0))) (.c (.e (some 6) [] (.s2b 5 (.t 5))) (.c (.q 3 [] (.mv (.t 6))) .nil)))) t_sl1Turn_7) k e w := rfl
def x_sl1Turn : X := (.seq (.reg [0] (.c (.q 2 [] (.mv (.s []))) .nil)) t_sl1Turn_8)
theorem u_sl1Turn (P : Program) (k : KT) (e : Env) (w : World) : vcK P x_sl1Turn k e w = vcK P (.seq (.reg [0] (.c (.q 2 [] (.mv (.s []))) .nil)) t_sl1Turn_8) k e w := rfl
def r_sl1Turn : List XO := [(.mv (.t 2))]
theorem c_sl1Turn : convF Try.prog [95, 96, 97, 107, 117, 118, 128, 129, 134, 144, 145, 153, 156, 174, 175, 182] Try.f106 [([0], []), ([0, 3], []), ([0, 3, 4], []), ([4], [0, 3]), ([0, 3, 4, 10], []), ([0, 3, 4], []), ([0, 3, 4], []), ([2], [])] = some (x_sl1Turn, r_sl1Turn) := by kernel_rfl
def us_sl1Turn := And.intro @u_sl1Turn (And.intro @u_sl1Turn_1 (And.intro @u_sl1Turn_2 (And.intro @u_sl1Turn_3 (And.intro @u_sl1Turn_4 (And.intro @u_sl1Turn_5 (And.intro @u_sl1Turn_6 (And.intro @u_sl1Turn_7 @u_sl1Turn_8)))))))
def t_iTurnRow_1 : X := (.cond (.t 6) (.seq (.reg [2, 3] (.c (.q 2 [] (.mv (.s []))) (.c (.q 3 [] (.mv (.c (.bool false)))) .nil))) .ret) .skip)
theorem u_iTurnRow_1 (P : Program) (k : KT) (e : Env) (w : World) : vcK P t_iTurnRow_1 k e w = vcK P (.cond (.t 6) (.seq (.reg [2, 3] (.c (.q 2 [] (.mv (.s []))) (.c (.q 3 [] (.mv (.c (.bool false)))) .nil))) .ret) .skip) k e w := rfl
def t_iTurnRow_2 : X := (.seq (.reg [2, 3] (.c (.q 7 [] (.mv (.t 0))) (.c (.e (some 8) [] (.call false 105 [(.t 7)])) (.c (.q 2 [] (.mv (.t 8))) (.c (.q 3 [] (.mv (.c (.bool true)))) .nil))))) .ret)
theorem u_iTurnRow_2 (P : Program) (k : KT) (e : Env) (w : World) : vcK P t_iTurnRow_2 k e w = vcK P (.seq (.reg [2, 3] (.c (.q 7 [] (.mv (.t 0))) (.c (.e (some 8) [] (.call false 105 [(.t 7)])) (.c (.q 2 [] (.mv (.t 8))) (.c (.q 3 [] (.mv (.c (.bool true)))) .nil))))) .ret) k e w := rfl
def t_iTurnRow_3 : X := (.seq (.seq (.reg [0, 6] (.c (.q 4 [] (.mv (.t 0))) (.c (.e (some 5) [] (.call false 24 [(.t 4)])) (.c (.q 6 [] (.not (.t 5))) .nil)))) t_iTurnRow_1) t_iTurnRow_2)
theorem u_iTurnRow_3 (P : Program) (k : KT) (e : Env) (w : World) : vcK P t_iTurnRow_3 k e w = vcK P (.seq (.seq (.reg [0, 6] (.c (.q 4 [] (.mv (.t 0))) (.c (.e (some 5) [] (.call false 24 [(.t 4)])) (.c (.q 6 [] (.not (.t 5))) .nil)))) t_iTurnRow_1) t_iTurnRow_2) k e w := rfl
def x_iTurnRow : X := (.seq (.reg [0] (.c (.q 2 [] (.mv (.s []))) (.c (.q 3 [] (.mv (.c (.bool false)))) .nil))) t_iTurnRow_3)
theorem u_iTurnRow (P : Program) (k : KT) (e : Env) (w : World) : vcK P x_iTurnRow k e w = vcK P (.seq (.reg [0] (.c (.q 2 [] (.mv (.s []))) (.c (.q 3 [] (.mv (.c (.bool false)))) .nil))) t_iTurnRow_3) k e w := rfl
def r_iTurnRow : List XO := [(.mv (.t 2)), (.mv (.t 3))]
theorem c_iTurnRow : convF Try.prog [95, 96, 97, 107, 117, 118, 128, 129, 134, 144, 145, 153, 156, 174, 175, 182] Try.f29 [([0], []), ([0, 6], []), ([2, 3], []), ([2, 3], [])] = some (x_iTurnRow, r_iTurnRow) := by kernel_rfl
def us_iTurnRow := And.intro @u_iTurnRow (And.intro @u_iTurnRow_1 (And.intro @u_iTurnRow_2 @u_iTurnRow_3))
def t_sTurnRow_1 : X := (.cond (.t 6) (.seq (.reg [2, 3] (.c (.q 2 [] (.mv (.s []))) (.c (.q 3 [] (.mv (.c (.bool false)))) .nil))) .ret) .skip)
theorem u_sTurnRow_1 (P : Program) (k : KT) (e : Env) (w : World) : vcK P t_sTurnRow_1 k e w = vcK P (.cond (.t 6) (.seq (.reg [2, 3] (.c (.q 2 [] (.mv (.s []))) (.c (.q 3 [] (.mv (.c (.bool false)))) .nil))) .ret) .skip) k e w := rfl
def t_sTurnRow_2 : X := (.seq (.reg [2, 3] (.c (.q 7 [] (.mv (.t 0))) (.c (.e (some 8) [] (.call false 106 [(.t 7)])) (.c (.q 2 [] (.mv (.t 8))) (.c (.q 3 [] (.mv (.c (.bool true)))) .nil))))) .ret)
theorem u_sTurnRow_2 (P : Program) (k : KT) (e : Env) (w : World) : vcK P t_sTurnRow_2 k e w = vcK P (.seq (.reg [2, 3] (.c (.q 7 [] (.mv (.t 0))) (.c (.e (some 8) [] (.call false 106 [(.t 7)])) (.c (.q 2 [] (.mv (.t 8))) (.c (.q 3 [] (.mv (.c (.bool true)))) .nil))))) .ret) k e w := rfl
def t_sTurnRow_3 : X := (.seq (.seq (.reg [0, 6] (.c (.q 4 [] (.mv (.t 0))) (.c (.e (some 5) [] (.call false 103 [(.t 4)])) (.c (.q 6 [] (.not (.t 5))) .nil)))) t_sTurnRow_1) t_sTurnRow_2)
theorem u_sTurnRow_3 (P : Program) (k : KT) (e : Env) (w : World) : vcK P t_sTurnRow_3 k e w = vcK P (.seq (.seq (.reg [0, 6] (.c (.q 4 [] (.mv (.t 0))) (.c (.e (some 5) [] (.call false 103 [(.t 4)])) (.c (.q 6 [] (.not (.t 5))) .nil)))) t_sTurnRow_1) t_sTurnRow_2) k e w := rfl
def x_sTurnRow : X := (.seq (.reg [0] (.c (.q 2 [] (.mv (.s []))) (.c (.q 3 [] (.mv (.c (.bool false)))) .nil))) t_sTurnRow_3)
theorem u_sTurnRow (P : Program) (k : KT) (e : Env) (w : World) : vcK P x_sTurnRow k e w = vcK P (.seq (.reg [0] (.c (.q 2 [] (.mv (.s []))) (.c (.q 3 [] (.mv (.c (.bool false)))) .nil))) t_sTurnRow_3) k e w := rfl
def r_sTurnRow : List XO := [(.mv (.t 2)), (.mv (.t 3))]
theorem c_sTurnRow : convF Try.prog [95, 96, 97, 107, 117, 118, 128, 129, 134, 144, 145, 153, 156, 174, 175, 182] Try.f31 [([0], []), ([0, 6], []), ([2, 3], []), ([2, 3], [])] = some (x_sTurnRow, r_sTurnRow) := by kernel_rfl
def us_sTurnRow := And.intro @u_sTurnRow (And.intro @u_sTurnRow_1 (And.intro @u_sTurnRow_2 @u_sTurnRow_3))
def t_iRoundsOf_1 : X := (.cond (.t 6) (.seq (.reg [2, 3] (.c (.q 2 [] (.mv (.s []))) (.c (.q 3 [] (.mv (.c (.bool false)))) .nil))) .ret) .skip)
theorem u_iRoundsOf_1 (P : Program) (k : KT) (e : Env) (w : World) : vcK P t_iRoundsOf_1 k e w = vcK P (.cond (.t 6) (.seq (.reg [2, 3] (.c (.q 2 [] (.mv (.s []))) (.c (.q 3 [] (.mv (.c (.bool false)))) .nil))) .ret) .skip) k e w := rfl
def t_iRoundsOf_2 : X := (.seq (.reg [2, 3] (.c (.q 7 [] (.mv (.t 0))) (.c (.e (some 8) [] (.call false 104 [(.t 7)])) (.c (.q 2 [] (.mv (.t 8))) (.c (.q 3 [] (.mv (.c (.bool true)))) .nil))))) .ret)
theorem u_iRoundsOf_2 (P : Program) (k : KT) (e : Env) (w : World) : vcK P t_iRoundsOf_2 k e w = vcK P (.seq (.reg [2, 3] (.c (.q 7 [] (.mv (.t 0))) (.c (.e (some 8) [] (.call false 104 [(.t 7)])) (.c (.q 2 [] (.mv (.t 8))) (.c (.q 3 [] (.mv (.c (.bool true)))) .nil))))) .ret) k e w := rfl
def t_iRoundsOf_3 : X := (.seq (.seq (.reg [0, 6] (.c (.q 4 [] (.mv (.t 0))) (.c (.e (some 5) [] (.call false 102 [(.t 4)])) (.c (.q 6 [] (.not (.t 5))) .nil)))) t_iRoundsOf_1) t_iRoundsOf_2)
theorem u_iRoundsOf_3 (P : Program) (k : KT) (e : Env) (w : World) : vcK P t_iRoundsOf_3 k e w = vcK P (.seq (.seq (.reg [0, 6] (.c (.q 4 [] (.mv (.t 0))) (.c (.e (some 5) [] (.call false 102 [(.t 4)])) (.c (.q 6 [] (.not (.t 5))) .nil)))) t_iRoundsOf_1) t_iRoundsOf_2) k e w := rfl
def x_iRoundsOf : X := (.seq (.reg [0] (.c (.q 2 [] (.mv (.s []))) (.c (.q 3 [] (.mv (.c (.bool false)))) .nil))) t_iRoundsOf_3)
theorem u_iRoundsOf (P : Program) (k : KT) (e : Env) (w : World) : vcK P x_iRoundsOf k e w = vcK P (.seq (.reg [0] (.c (.q 2 [] (.mv (.s []))) (.c (.q 3 [] (.mv (.c (.bool false)))) .nil))) t_iRoundsOf_3) k e w := rfl
def r_iRoundsOf : List XO := [(.mv (.t 2)), (.mv (.t 3))]
theorem c_iRoundsOf : convF Try.prog [95, 96, 97, 107, 117, 118, 128, 129, 134, 144, 145, 153, 156, 174, 175, 182] Try.f27 [([0], []), ([0, 6], []), ([2, 3], []), ([2, 3], [])] = some (x_iRoundsOf, r_iRoundsOf) := by kernel_rfl
def us_iRoundsOf := And.intro @u_iRoundsOf (And.intro @u_iRoundsOf_1 (And.intro @u_iRoundsOf_2 @u_iRoundsOf_3))
def t_sRoundsOf_1 : X := (.cond (.t 6) (.seq (.reg [2, 3] (.c (.q 2 [] (.mv (.s []))) (.c (.q 3 [] (.mv (.c (.bool false)))) .nil))) .ret) .skip)
theorem u_sRoundsOf_1 (P : Program) (k : KT) (e : Env) (w : World) : vcK P t_sRoundsOf_1 k e w = vcK P (.cond (.t 6) (.seq (.reg [2, 3] (.c (.q 2 [] (.mv (.s []))) (.c (.q 3 [] (.mv (.c (.bool false)))) .nil))) .ret) .skip) k e w := rfl
def t_sRoundsOf_2 : X := (.seq (.reg [2, 3] (.c (.q 7 [] (.mv (.t 0))) (.c (.e (some 8) [] (.call false 108 [(.t 7)])) (.c (.q 2 [] (.mv (.t 8))) (.c (.q 3 [] (.mv (.c (.bool true)))) .nil))))) .ret)
theorem u_sRoundsOf_2 (P : Program) (k : KT) (e : Env) (w : World) : vcK P t_sRoundsOf_2 k e w = vcK P (.seq (.reg [2, 3] (.c (.q 7 [] (.mv (.t 0))) (.c (.e (some 8) [] (.call false 108 [(.t 7)])) (.c (.q 2 [] (.mv (.t 8))) (.c (.q 3 [] (.mv (.c (.bool true)))) .nil))))) .ret) k e w := rfl
def t_sRoundsOf_3 : X := (.seq (.seq (.reg [0, 6] (.c (.q 4 [] (.mv (.t 0))) (.c (.e (some 5) [] (.call false 87 [(.t 4), (.c (.int .i64 3)), (.c (.int .i64 8))])) (.c (.q 6 [] (.not (.t 5))) .nil)))) t_sRoundsOf_1) t_sRoundsOf_2)
theorem u_sRoundsOf_3 (P : Program) (k : KT) (e : Env) (w : World) : vcK P t_sRoundsOf_3 k e w = vcK P (.seq (.seq (.reg [0, 6] (.c (.q 4 [] (.mv (.t 0))) (.c (.e (some 5) [] (.call false 87 [(.t 4), (.c (.int .i64 3)), (.c (.int .i64 8))])) (.c (.q 6 [] (.not (.t 5))) .nil)))) t_sRoundsOf_1) t_sRoundsOf_2) k e w := rfl
def x_sRoundsOf : X := (.seq (.reg [0] (.c (.q 2 [] (.mv (.s []))) (.c (.q 3 [] (.mv (.c (.bool false)))) .nil))) t_sRoundsOf_3)
theorem u_sRoundsOf (P : Program) (k : KT) (e : Env) (w : World) : vcK P x_sRoundsOf k e w = vcK P (.seq (.reg [0] (.c (.q 2 [] (.mv (.s []))) (.c (.q 3 [] (.mv (.c (.bool false)))) .nil))) t_sRoundsOf_3) k e w := rfl
def r_sRoundsOf : List XO := [(.mv (.t 2)), (.mv (.t 3))]
theorem c_sRoundsOf : convF Try.prog [95, 96, 97, 107, 117, 118, 128, 129, 134, 144, 145, 153, 156, 174, 175, 182] Try.f33 [([0], []), ([0, 6], []), ([2, 3], []), ([2, 3], [])] = some (x_sRoundsOf, r_sRoundsOf) := by kernel_rfl
def us_sRoundsOf := And.intro @u_sRoundsOf (And.intro @u_sRoundsOf_1 (And.intro @u_sRoundsOf_2 @u_sRoundsOf_3))
def t_iPowerOf_1 : X := (.cond (.t 17) (.seq (.reg [4, 5] (.c (.q 4 [] (.mv (.s []))) (.c (.q 5 [] (.mv (.c (.bool false)))) .nil))) .ret) .skip)
theorem u_iPowerOf_1 (P : Program) (k : KT) (e : Env) (w : World) : vcK P t_iPowerOf_1 k e w = vcK P (.cond (.t 17) (.seq (.reg [4, 5] (.c (.q 4 [] (.mv (.s []))) (.c (.q 5 [] (.mv (.c (.bool false)))) .nil))) .ret) .skip) k e w := rfl
def t_iPowerOf_2 : X := (.cond (.t 19) (.reg [0, 1] (.c (.q 20 [] (.mv (.t 0))) (.c (.e (some 21) [] (.call false 105 [(.t 20)])) (.c (.q 22 [] (.mv (.t 1))) (.c (.q 23 [] (.neg (.t 22))) (.c (.q 0 [] (.mv (.t 21))) (.c (.q 1 [] (.mv (.t 23))) .nil))))))) .skip)
theorem u_iPowerOf_2 (P : Program) (k : KT) (e : Env) (w : World) : vcK P t_iPowerOf_2 k e w = vcK P (.cond (.t 19) (.reg [0, 1] (.c (.q 20 [] (.mv (.t 0))) (.c (.e (some 21) [] (.call false 105 [(.t 20)])) (.c (.q 22 [] (.mv (.t 1))) (.c (.q 23 [] (.neg (.t 22))) (.c (.q 0 [] (.mv (.t 21))) (.c (.q 1 [] (.mv (.t 23))) .nil))))))) .skip) k e w := rfl
def t_iPowerOf_3 : X := (.reg [0, 6, 27, 28] (.c (.q 33 [] (.bin .add (.t 28) (.c (.int .i64 1)))) (.c (.q 28 [] (.mv (.t 33))) .nil)))
theorem u_iPowerOf_3 (P : Program) (k : KT) (e : Env) (w : World) : vcK P t_iPowerOf_3 k e w = vcK P (.reg [0, 6, 27, 28] (.c (.q 33 [] (.bin .add (.t 28) (.c (.int .i64 1)))) (.c (.q 28 [] (.mv (.t 33))) .nil))) k e w := rfl
def t_iPowerOf_4 : X := (.seq (.blk 1 (.reg [0, 6, 27, 28] (.c (.q 30 [] (.mv (.t 6))) (.c (.q 31 [] (.mv (.t 0))) (.c (.e (some 32) [] (.call false 99 [(.t 30), (.t 31)])) (.c (.q 6 [] (.mv (.t 32))) .nil)))))) t_iPowerOf_3)
theorem u_iPowerOf_4 (P : Program) (k : KT) (e : Env) (w : World) : vcK P t_iPowerOf_4 k e w = vcK P (.seq (.blk 1 (.reg [0, 6, 27, 28] (.c (.q 30 [] (.mv (.t 6))) (.c (.q 31 [] (.mv (.t 0))) (.c (.e (some 32) [] (.call false 99 [(.t 30), (.t 31)])) (.c (.q 6 [] (.mv (.t 32))) .nil)))))) t_iPowerOf_3) k e w := rfl
def t_iPowerOf_5 : X := (.seq (.cond (.t 29) .skip (.exit 0)) t_iPowerOf_4)
theorem u_iPowerOf_5 (P : Program) (k : KT) (e : Env) (w : World) : vcK P t_iPowerOf_5 k e w = vcK P (.seq (.cond (.t 29) .skip (.exit 0)) t_iPowerOf_4) k e w := rfl
def t_iPowerOf_6 : X := (.seq (.reg [0, 6, 27, 28, 29] (.c (.q 29 [] (.bin .lss (.t 28) (.t 27))) .nil)) t_iPowerOf_5)
theorem u_iPowerOf_6 (P : Program) (k : KT) (e : Env) (w : World) : vcK P t_iPowerOf_6 k e w = vcK P (.seq (.reg [0, 6, 27, 28, 29] (.c (.q 29 [] (.bin .lss (.t 28) (.t 27))) .nil)) t_iPowerOf_5) k e w := rfl
def t_iPowerOf_7 : X := (.blk 0 (.loop [6, 28] [0, 27] t_iPowerOf_6))
theorem u_iPowerOf_7 (P : Program) (k : KT) (e : Env) (w : World) : vcK P t_iPowerOf_7 k e w = vcK P (.blk 0 (.loop [6, 28] [0, 27] t_iPowerOf_6)) k e w := rfl
def t_iPowerOf_8 : X := (.seq (.reg [4, 5] (.c (.q 34 [] (.mv (.t 6))) (.c (.q 4 [] (.mv (.t 34))) (.c (.q 5 [] (.mv (.c (.bool true)))) .nil)))) .ret)
theorem u_iPowerOf_8 (P : Program) (k : KT) (e : Env) (w : World) : vcK P t_iPowerOf_8 k e w = vcK P (.seq (.reg [4, 5] (.c (.q 34 [] (.mv (.t 6))) (.c (.q 4 [] (.mv (.t 34))) (.c (.q 5 [] (.mv (.c (.bool true)))) .nil)))) .ret) k e w := rfl
def t_iPowerOf_9 : X := (.seq (.seq (.reg [0, 6, 27, 28] (.c (.q 27 [] (.mv (.t 1))) (.c (.q 28 [] (.mv (.c (.int .i64 0)))) .nil))) t_iPowerOf_7) t_iPowerOf_8)
theorem u_iPowerOf_9 (P : Program) (k : KT) (e : Env) (w : World) : vcK P t_iPowerOf_9 k e w = vcK P (.seq (.seq (.reg [0, 6, 27, 28] (.c (.q 27 [] (.mv (.t 1))) (.c (.q 28 [] (.mv (.c (.int .i64 0)))) .nil))) t_iPowerOf_7) t_iPowerOf_8) k e w := rfl
def t_iPowerOf_10 : X := (.seq (.reg [0, 1, 6] (.c (.q 24 [] (.mv (.t 0))) (.c (.q 25 [] (.len (.t 24))) (.c (.e (some 26) [] (.call false 104 [(.t 25)])) (.c (.q 6 [] (.mv (.t 26))) .nil))))) t_iPowerOf_9)
theorem u_iPowerOf_10 (P : Program) (k : KT) (e : Env) (w : World) : vcK P t_iPowerOf_10 k e w = vcK P (.seq (.reg [0, 1, 6] (.c (.q 24 [] (.mv (.t 0))) (.c (.q 25 [] (.len (.t 24))) (.c (.e (some 26) [] (.call false 104 [(.t 25)])) (.c (.q 6 [] (.mv (.t 26))) .nil))))) t_iPowerOf_9) k e w := rfl
def t_iPowerOf_11 : X := (.seq (.seq (.reg [0, 1, 19] (.c (.q 18 [] (.mv (.t 1))) (.c (.q 19 [] (.bin .lss (.t 18) (.c (.int .i64 0)))) .nil))) t_iPowerOf_2) t_iPowerOf_10)
theorem u_iPowerOf_11 (P : Program) (k : KT) (e : Env) (w : World) : vcK P t_iPowerOf_11 k e w = vcK P (.seq (.seq (.reg [0, 1, 19] (.c (.q 18 [] (.mv (.t 1))) (.c (.q 19 [] (.bin .lss (.t 18) (.c (.int .i64 0)))) .nil))) t_iPowerOf_2) t_iPowerOf_10) k e w := rfl
def t_iPowerOf_12 : X := (.seq (.seq (.reg [0, 1, 17] (.c (.q 7 [] (.mv (.t 0))) (.c (.e (some 8) [] (.call false 24 [(.t 7)])) (.c (.q 9 [] (.not (.t 8))) (.c (.q 10 [] (.mv (.t 9))) (.c (.q 11 [(10, false)] (.mv (.t 1))) (.c (.q 12 [(10, false)] (.bin .lss (.t 11) (.c (.int .i64 (-1000))))) (.c (.q 13 [] (.pick (.t 10) (.c (.bool true)) (.t 12))) (.c (.q 14 [] (.mv (.t 13))) (.c (.q 15 [(14, false)] (.mv (.t 1))) (.c (.q 16 [(14, false)] (.bin .gtr (.t 15) (.c (.int .i64 1000)))) (.c (.q 17 [] (.pick (.t 14) (.c (.bool true)) (.t 16))) .nil)))))))))))) t_iPowerOf_1) t_iPowerOf_11)
theorem u_iPowerOf_12 (P : Program) (k : KT) (e : Env) (w : World) : vcK P t_iPowerOf_12 k e w = vcK P (.seq (.seq (.reg [0, 1, 17] (.c (.q 7 [] (.mv (.t 0))) (.c (.e (some 8) [] (.call false 24 [(.t 7)])) (.c (.q 9 [] (.not (.t 8))) (.c (.q 10 [] (.mv (.t 9))) (.c (.q 11 [(10, false)] (.mv (.t 1))) (.c (.q 12 [(10, false)] (.bin .lss (.t 11) (.c (.int .i64 (-1000))))) (.c (.q 13 [] (.pick (.t 10) (.c (.bool true)) (.t 12))) (.c (.q 14 [] (.mv (.t 13))) (.c (.q 15 [(14, false)] (.mv (.t 1))) (.c (.q 16 [(14, false)] (.bin .gtr (.t 15) (.c (.int .i64 1000)))) (.c (.q 17 [] (.pick (.t 14) (.c (.bool true)) (.t 16))) .nil)))))))))))) t_iPowerOf_1) t_iPowerOf_11) k e w := rfl
def x_iPowerOf : X := (.seq (.reg [0, 1] (.c (.q 4 [] (.mv (.s []))) (.c (.q 5 [] (.mv (.c (.bool false)))) .nil))) t_iPowerOf_12)
theorem u_iPowerOf (P : Program) (k : KT) (e : Env) (w : World) : vcK P x_iPowerOf k e w = vcK P (.seq (.reg [0, 1] (.c (.q 4 [] (.mv (.s []))) (.c (.q 5 [] (.mv (.c (.bool false)))) .nil))) t_iPowerOf_12) k e w := rfl
def r_iPowerOf : List XO := [(.mv (.t 4)), (.mv (.t 5))]
theorem c_iPowerOf : convF Try.prog [95, 96, 97, 107, 117, 118, 128, 129, 134, 144, 145, 153, 156, 174, 175, 182] Try.f28 [([0, 1], []), ([0, 1, 17], []), ([4, 5], []), ([0, 1, 19], []), ([0, 1], []), ([0, 1, 6], []), ([0, 6, 27, 28], []), ([6, 28], [0, 27]), ([0, 6, 27, 28, 29], []), ([0, 6, 27, 28], []), ([0, 6, 27, 28], []), ([4, 5], [])] = some (x_iPowerOf, r_iPowerOf) := by kernel_rfl
def us_iPowerOf := And.intro @u_iPowerOf (And.intro @u_iPowerOf_1 (And.intro @u_iPowerOf_2 (And.intro @u_iPowerOf_3 (And.intro @u_iPowerOf_4 (And.intro @u_iPowerOf_5 (And.intro @u_iPowerOf_6 (And.intro @u_iPowerOf_7 (And.intro @u_iPowerOf_8 (And.intro @u_iPowerOf_9 (And.intro @u_iPowerOf_10 (And.intro @u_iPowerOf_11 @u_iPowerOf_12)))))))))))
def t_sGoodRow_1 : X := (.seq (.reg [2] (.c (.q 3 [] (.mv (.t 0))) (.c (.e (some 4) [] (.call false 103 [(.t 3)])) (.c (.q 2 [] (.mv (.t 4))) .nil)))) .ret)
theorem u_sGoodRow_1 (P : Program) (k : KT) (e : Env) (w : World) : vcK P t_sGoodRow_1 k e w = vcK P (.seq (.reg [2] (.c (.q 3 [] (.mv (.t 0))) (.c (.e (some 4) [] (.call false 103 [(.t 3)])) (.c (.q 2 [] (.mv (.t 4))) .nil)))) .ret) k e w := rfl
def x_sGoodRow : X := (.seq (.reg [0] (.c (.q 2 [] (.mv (.c (.bool false)))) .nil)) t_sGoodRow_1)
theorem u_sGoodRow (P : Program) (k : KT) (e : Env) (w : World) : vcK P x_sGoodRow k e w = vcK P (.seq (.reg [0] (.c (.q 2 [] (.mv (.c (.bool false)))) .nil)) t_sGoodRow_1) k e w := rfl
def r_sGoodRow : List XO := [(.mv (.t 2))]
theorem c_sGoodRow : convF Try.prog [95, 96, 97, 107, 117, 118, 128, 129, 134, 144, 145, 153, 156, 174, 175, 182] Try.f25 [([0], []), ([2], [])] = some (x_sGoodRow, r_sGoodRow) := by kernel_rfl
def us_sGoodRow := And.intro @u_sGoodRow @u_sGoodRow_1
def t_lbig_1 : X := (.seq (.reg [4] (.c (.q 5 [] (.mv (.t 0))) (.c (.q 6 [] (.lens (.t 5))) (.c (.q 7 [] (.bin .gtr (.t 6) (.c (.int .i64 1048576)))) (.c (.q 8 [] (.mv (.t 7))) (.c (.q 9 [(8, false)] (.mv (.t 1))) (.c (.q 10 [(8, false)] (.lens (.t 9))) (.c (.q 11 [(8, false)] (.mv (.t 0))) (.c (.q 12 [(8, false)] (.lens (.t 11))) (.c (.q 13 [(8, false)] (.bin .sub (.c (.int .i64 1048576)) (.t 12))) (.c (.q 14 [(8, false)] (.bin .gtr (.t 10) (.t 13))) (.c (.q 15 [] (.pick (.t 8) (.c (.bool true)) (.t 14))) (.c (.q 4 [] (.mv (.t 15))) .nil))))))))))))) .ret)
theorem u_lbig_1 (P : Program) (k : KT) (e : Env) (w : World) : vcK P t_lbig_1 k e w = vcK P (.seq (.reg [4] (.c (.q 5 [] (.mv (.t 0))) (.c (.q 6 [] (.lens (.t 5))) (.c (.q 7 [] (.bin .gtr (.t 6) (.c (.int .i64 1048576)))) (.c (.q 8 [] (.mv (.t 7))) (.c (.q 9 [(8, false)] (.mv (.t 1))) (.c (.q 10 [(8, false)] (.lens (.t 9))) (.c (.q 11 [(8, false)] (.mv (.t 0))) (.c (.q 12 [(8, false)] (.lens (.t 11))) (.c (.q 13 [(8, false)] (.bin .sub (.c (.int .i64 1048576)) (.t 12))) (.c (.q 14 [(8, false)] (.bin .gtr (.t 10) (.t 13))) (.c (.q 15 [] (.pick (.t 8) (.c (.bool true)) (.t 14))) (.c (.q 4 [] (.mv (.t 15))) .nil))))))))))))) .ret) k e w := rfl
def x_lbig : X := (.seq (.reg [0, 1] (.c (.q 4 [] (.mv (.c (.bool false)))) .nil)) t_lbig_1)
theorem u_lbig (P : Program) (k : KT) (e : Env) (w : World) : vcK P x_lbig k e w = vcK P (.seq (.reg [0, 1] (.c (.q 4 [] (.mv (.c (.bool false)))) .nil)) t_lbig_1) k e w := rfl
def r_lbig : List XO := [(.mv (.t 4))]
theorem c_lbig : convF Try.prog [95, 96, 97, 107, 117, 118, 128, 129, 134, 144, 145, 153, 156, 174, 175, 182] Try.f20 [([0, 1], []), ([4], [])] = some (x_lbig, r_lbig) := by kernel_rfl
def us_lbig := And.intro @u_lbig @u_lbig_1
def t_lnumberOf_1 : X := (.reg [3, 6, 7, 8] (.c (.q 12 [] (.mv (.t 3))) (.c (.q 13 [] (.bin .mul (.c (.int .i64 31)) (.t 12))) (.c (.q 14 [] (.mv (.t 5))) (.c (.q 15 [] (.cvi .i64 (.t 14))) (.c (.q 16 [] (.bin .add (.t 13) (.t 15))) (.c (.q 17 [] (.bin .rem (.t 16) (.c (.int .i64 1000003)))) (.c (.q 3 [] (.mv (.t 17))) .nil))))))))
theorem u_lnumberOf_1 (P : Program) (k : KT) (e : Env) (w : World) : vcK P t_lnumberOf_1 k e w = vcK P (.reg [3, 6, 7, 8] (.c (.q 12 [] (.mv (.t 3))) (.c (.q 13 [] (.bin .mul (.c (.int .i64 31)) (.t 12))) (.c (.q 14 [] (.mv (.t 5))) (.c (.q 15 [] (.cvi .i64 (.t 14))) (.c (.q 16 [] (.bin .add (.t 13) (.t 15))) (.c (.q 17 [] (.bin .rem (.t 16) (.c (.int .i64 1000003)))) (.c (.q 3 [] (.mv (.t 17))) .nil)))))))) k e w := rfl
def t_lnumberOf_2 : X := (.reg [3, 6, 7, 8] (.c (.q 18 [] (.bin .add (.t 8) (.c (.int .i64 1)))) (.c (.q 8 [] (.mv (.t 18))) .nil)))
theorem u_lnumberOf_2 (P : Program) (k : KT) (e : Env) (w : World) : vcK P t_lnumberOf_2 k e w = vcK P (.reg [3, 6, 7, 8] (.c (.q 18 [] (.bin .add (.t 8) (.c (.int .i64 1)))) (.c (.q 8 [] (.mv (.t 18))) .nil))) k e w := rfl
def t_lnumberOf_3 : X := (.seq (.blk 1 (.seq (.reg [3, 5, 6, 7, 8] (.c (.q 10 [] (.ia 1 (.t 6) (.t 8))) (.c (.q 11 [] (.ld (.t 10))) (.c (.q 5 [] (.mv (.t 11))) .nil)))) t_lnumberOf_1)) t_lnumberOf_2)
theorem u_lnumberOf_3 (P : Program) (k : KT) (e : Env) (w : World) : vcK P t_lnumberOf_3 k e w = vcK P (.seq (.blk 1 (.seq (.reg [3, 5, 6, 7, 8] (.c (.q 10 [] (.ia 1 (.t 6) (.t 8))) (.c (.q 11 [] (.ld (.t 10))) (.c (.q 5 [] (.mv (.t 11))) .nil)))) t_lnumberOf_1)) t_lnumberOf_2) k e w := rfl
def t_lnumberOf_4 : X := (.seq (.cond (.t 9) .skip (.exit 0)) t_lnumberOf_3)
theorem u_lnumberOf_4 (P : Program) (k : KT) (e : Env) (w : World) : vcK P t_lnumberOf_4 k e w = vcK P (.seq (.cond (.t 9) .skip (.exit 0)) t_lnumberOf_3) k e w := rfl
def t_lnumberOf_5 : X := (.seq (.reg [3, 6, 7, 8, 9] (.c (.q 9 [] (.bin .lss (.t 8) (.t 7))) .nil)) t_lnumberOf_4)
theorem u_lnumberOf_5 (P : Program) (k : KT) (e : Env) (w : World) : vcK P t_lnumberOf_5 k e w = vcK P (.seq (.reg [3, 6, 7, 8, 9] (.c (.q 9 [] (.bin .lss (.t 8) (.t 7))) .nil)) t_lnumberOf_4) k e w := rfl
def t_lnumberOf_6 : X := (.blk 0 (.loop [3, 8] [6, 7] t_lnumberOf_5))
theorem u_lnumberOf_6 (P : Program) (k : KT) (e : Env) (w : World) : vcK P t_lnumberOf_6 k e w = vcK P (.blk 0 (.loop [3, 8] [6, 7] t_lnumberOf_5)) k e w := rfl
def t_lnumberOf_7 : X := (.seq (.reg [2] (.c (.q 19 [] (.mv (.t 3))) (.c (.q 2 [] (.mv (.t 19))) .nil))) .ret)
theorem u_lnumberOf_7 (P : Program) (k : KT) (e : Env) (w : World) : vcK P t_lnumberOf_7 k e w = vcK P (.seq (.reg [2] (.c (.q 19 [] (.mv (.t 3))) (.c (.q 2 [] (.mv (.t 19))) .nil))) .ret) k e w := rfl
def t_lnumberOf_8 : X := (.seq (.seq (.reg [3, 6, 7, 8] (.c (.q 6 [] (.mv (.t 0))) (.c (.q 7 [] (.lens (.t 6))) (.c (.q 8 [] (.mv (.c (.int .i64 0)))) .nil)))) t_lnumberOf_6) t_lnumberOf_7)
theorem u_lnumberOf_8 (P : Program) (k : KT) (e : Env) (w : World) : vcK P t_lnumberOf_8 k e w = vcK P (.seq (.seq (.reg [3, 6, 7, 8] (.c (.q 6 [] (.mv (.t 0))) (.c (.q 7 [] (.lens (.t 6))) (.c (.q 8 [] (.mv (.c (.int .i64 0)))) .nil)))) t_lnumberOf_6) t_lnumberOf_7) k e w := rfl
def t_lnumberOf_9 : X := (.seq (.reg [0, 3] (.c (.q 3 [] (.mv (.c (.int .i64 0)))) .nil)) t_lnumberOf_8)
theorem u_lnumberOf_9 (P : Program) (k : KT) (e : Env) (w : World) : vcK P t_lnumberOf_9 k e w = vcK P (.seq (.reg [0, 3] (.c (.q 3 [] (.mv (.c (.int .i64 0)))) .nil)) t_lnumberOf_8) k e w := rfl
def x_lnumberOf : X := (.seq (.reg [0] (.c (.q 2 [] (.mv (.c (.int .i64 0)))) .nil)) t_lnumberOf_9)
theorem u_lnumberOf (P : Program) (k : KT) (e : Env) (w : World) : vcK P x_lnumberOf k e w = vcK P (.seq (.reg [0] (.c (.q 2 [] (.mv (.c (.int .i64 0)))) .nil)) t_lnumberOf_9) k e w := rfl
def r_lnumberOf : List XO := [(.mv (.t 2))]
theorem c_lnumberOf : convF Try.prog [95, 96, 97, 107, 117, 118, 128, 129, 134, 144, 145, 153, 156, 174, 175, 182] Try.f26 [([0], []), ([0, 3], []), ([3, 6, 7, 8], []), ([3, 8], [6, 7]), ([3, 6, 7, 8, 9], []), ([3, 5, 6, 7, 8], []), ([3, 6, 7, 8], []), ([3, 6, 7, 8], []), ([2], [])] = some (x_lnumberOf, r_lnumberOf) := by kernel_rfl
def us_lnumberOf := And.intro @u_lnumberOf (And.intro @u_lnumberOf_1 (And.intro @u_lnumberOf_2 (And.intro @u_lnumberOf_3 (And.intro @u_lnumberOf_4 (And.intro @u_lnumberOf_5 (And.intro @u_lnumberOf_6 (And.intro @u_lnumberOf_7 (And.intro @u_lnumberOf_8 @u_lnumberOf_9))))))))

def timesV (a b : List UInt8) : Value := if IsRow a ∧ IsRow b ∧ a.length = b.length then .tuple ⟨[S (timesL a b), .bool true]⟩ else .tuple ⟨[S [], .bool false]⟩
def turnRV (a : List UInt8) : Value := if IsRow a then .tuple ⟨[S (turnL a), .bool true]⟩ else .tuple ⟨[S [], .bool false]⟩
def roundsV (n : Int) : Value := if 3 ≤ n ∧ n ≤ 8 then .tuple ⟨[S (roundsL n.toNat), .bool true]⟩ else .tuple ⟨[S [], .bool false]⟩
/-- A power, of the inverse where the exponent is below 0. -/
def powZ (a : List UInt8) (k : Int) : List UInt8 := if k < 0 then powL (turnL a) (-k).toNat else powL a k.toNat
def powV (a : List UInt8) (k : Int) : Value := if IsRow a ∧ -1000 ≤ k ∧ k ≤ 1000 then .tuple ⟨[S (powZ a k), .bool true]⟩ else .tuple ⟨[S [], .bool false]⟩
theorem iTimes_ok (a b : List UInt8) (w : World) : Fn 22 [S a, S b] w (fun r _ => r = timesV a b) := by
  (refine callsV_of mix Try.func22 c_iTimes ?_; simp only [↓vsd, vsn, gW, qd, qv, ev, pick, argE, List.map_cons, List.map_nil, Option.map_some, Option.map_none, zipE, List.cons_append, List.nil_append, ne_eq, eq_self, forall_const, implies_true, if_true, if_false, reduceIte, List.cons.injEq, reduceCtorEq, Nat.reduceEqDiff, List.length_nil, List.length_cons, Nat.reduceAdd, Nat.reduceLT, List.set_cons_zero, List.set_cons_succ, ↓us_iTimes, r_iTimes])
  refine m_call (iGoodRow_ok _ _) ?_
  rintro _ w1 hx1 rfl
  simp only [↓vsd, vsn, gW, qd, qv, ev, pick, argE, List.map_cons, List.map_nil, Option.map_some, Option.map_none, zipE, List.cons_append, List.nil_append, ne_eq, eq_self, forall_const, implies_true, if_true, if_false, reduceIte, List.cons.injEq, reduceCtorEq, Nat.reduceEqDiff, List.length_nil, List.length_cons, Nat.reduceAdd, Nat.reduceLT, List.set_cons_zero, List.set_cons_succ, ↓us_iTimes, r_iTimes]
  refine ⟨fun ha => m_call (iisRowOf_ok _ _ _) ?_, fun ha => ⟨hx1, by rw [timesV, if_neg (fun h => ha h.1)]⟩⟩
  rintro _ w2 hx2 rfl
  simp only [↓vsd, vsn, gW, qd, qv, ev, pick, argE, List.map_cons, List.map_nil, Option.map_some, Option.map_none, zipE, List.cons_append, List.nil_append, ne_eq, eq_self, forall_const, implies_true, if_true, if_false, reduceIte, List.cons.injEq, reduceCtorEq, Nat.reduceEqDiff, List.length_nil, List.length_cons, Nat.reduceAdd, Nat.reduceLT, List.set_cons_zero, List.set_cons_succ, ↓us_iTimes, r_iTimes]
  refine ⟨fun hb => ⟨hx1.trans hx2, ?_⟩, fun hb => m_call (itimes_ok a b hb.2.2 (by omega) _) ?_⟩
  · rw [timesV, if_neg]
    rintro ⟨h1, h2, h3⟩
    rcases hb with h | h | h
    · exact h h1
    · omega
    · exact h h2
  · rintro _ w3 hx3 rfl
    simp only [↓vsd, vsn, gW, qd, qv, ev, pick, argE, List.map_cons, List.map_nil, Option.map_some, Option.map_none, zipE, List.cons_append, List.nil_append, ne_eq, eq_self, forall_const, implies_true, if_true, if_false, reduceIte, List.cons.injEq, reduceCtorEq, Nat.reduceEqDiff, List.length_nil, List.length_cons, Nat.reduceAdd, Nat.reduceLT, List.set_cons_zero, List.set_cons_succ, ↓us_iTimes, r_iTimes]
    exact ⟨(hx1.trans hx2).trans hx3, by rw [timesV, if_pos ⟨hb.1, hb.2.2, by omega⟩]⟩
theorem sl1Two_ok (a b : List UInt8) (w : World) : Fn 100 [S a, S b] w (fun r _ => r = .bool (decide (IsRow a ∧ IsRow b ∧ a.length = b.length))) := by
  (refine callsV_of mix Try.func100 c_sl1Two ?_; simp only [↓vsd, vsn, gW, qd, qv, ev, pick, argE, List.map_cons, List.map_nil, Option.map_some, Option.map_none, zipE, List.cons_append, List.nil_append, ne_eq, eq_self, forall_const, implies_true, if_true, if_false, reduceIte, List.cons.injEq, reduceCtorEq, Nat.reduceEqDiff, List.length_nil, List.length_cons, Nat.reduceAdd, Nat.reduceLT, List.set_cons_zero, List.set_cons_succ, ↓us_sl1Two, r_sl1Two])
  refine m_call (sl1Row_ok _ _) ?_
  rintro _ w1 hx1 rfl
  simp only [↓vsd, vsn, gW, qd, qv, ev, pick, argE, List.map_cons, List.map_nil, Option.map_some, Option.map_none, zipE, List.cons_append, List.nil_append, ne_eq, eq_self, forall_const, implies_true, if_true, if_false, reduceIte, List.cons.injEq, reduceCtorEq, Nat.reduceEqDiff, List.length_nil, List.length_cons, Nat.reduceAdd, Nat.reduceLT, List.set_cons_zero, List.set_cons_succ, ↓us_sl1Two, r_sl1Two]
  refine ⟨fun ha => m_call (sl1Row_ok _ _) ?_, fun ha => ⟨hx1, by simp [ha]⟩⟩
  rintro _ w2 hx2 rfl
  simp only [↓vsd, vsn, gW, qd, qv, ev, pick, argE, List.map_cons, List.map_nil, Option.map_some, Option.map_none, zipE, List.cons_append, List.nil_append, ne_eq, eq_self, forall_const, implies_true, if_true, if_false, reduceIte, List.cons.injEq, reduceCtorEq, Nat.reduceEqDiff, List.length_nil, List.length_cons, Nat.reduceAdd, Nat.reduceLT, List.set_cons_zero, List.set_cons_succ, ↓us_sl1Two, r_sl1Two]
  refine ⟨hx1.trans hx2, ?_⟩
  simp only [← Bool.decide_and]
  congr 1
  exact propext ⟨fun h => ⟨ha, h.1.2, by omega⟩, fun h => ⟨⟨ha, h.2.1⟩, by have := h.2.2; omega⟩⟩
theorem sTimes_ok (a b : List UInt8) (w : World) : Fn 23 [S a, S b] w (fun r _ => r = timesV a b) := by
  (refine callsV_of mix Try.func23 c_sTimes ?_; simp only [↓vsd, vsn, gW, qd, qv, ev, pick, argE, List.map_cons, List.map_nil, Option.map_some, Option.map_none, zipE, List.cons_append, List.nil_append, ne_eq, eq_self, forall_const, implies_true, if_true, if_false, reduceIte, List.cons.injEq, reduceCtorEq, Nat.reduceEqDiff, List.length_nil, List.length_cons, Nat.reduceAdd, Nat.reduceLT, List.set_cons_zero, List.set_cons_succ, ↓us_sTimes, r_sTimes])
  refine m_call (sl1Two_ok _ _ _) ?_
  rintro _ w1 hx1 rfl
  simp only [↓vsd, vsn, gW, qd, qv, ev, pick, argE, List.map_cons, List.map_nil, Option.map_some, Option.map_none, zipE, List.cons_append, List.nil_append, ne_eq, eq_self, forall_const, implies_true, if_true, if_false, reduceIte, List.cons.injEq, reduceCtorEq, Nat.reduceEqDiff, List.length_nil, List.length_cons, Nat.reduceAdd, Nat.reduceLT, List.set_cons_zero, List.set_cons_succ, ↓us_sTimes, r_sTimes]
  refine ⟨fun hn => ⟨hx1, by rw [timesV, if_neg hn]⟩, fun hy => m_call (sl1Times_ok a b hy.2.1 hy.2.2 _) ?_⟩
  rintro _ w2 hx2 rfl
  simp only [↓vsd, vsn, gW, qd, qv, ev, pick, argE, List.map_cons, List.map_nil, Option.map_some, Option.map_none, zipE, List.cons_append, List.nil_append, ne_eq, eq_self, forall_const, implies_true, if_true, if_false, reduceIte, List.cons.injEq, reduceCtorEq, Nat.reduceEqDiff, List.length_nil, List.length_cons, Nat.reduceAdd, Nat.reduceLT, List.set_cons_zero, List.set_cons_succ, ↓us_sTimes, r_sTimes]
  exact ⟨hx1.trans hx2, by rw [timesV, if_pos hy]⟩
theorem iturned_ok (a : List UInt8) (ha : IsRow a) (w : World) : Fn 105 [S a] w (fun r _ => r = S (turnL a)) := by
  (refine callsV_of mix Try.func105 c_iturned ?_; simp only [↓vsd, vsn, gW, qd, qv, ev, pick, argE, List.map_cons, List.map_nil, Option.map_some, Option.map_none, zipE, List.cons_append, List.nil_append, ne_eq, eq_self, forall_const, implies_true, if_true, if_false, reduceIte, List.cons.injEq, reduceCtorEq, Nat.reduceEqDiff, List.length_nil, List.length_cons, Nat.reduceAdd, Nat.reduceLT, List.set_cons_zero, List.set_cons_succ, ↓us_iturned, r_iturned])
  have h8 := ha.1
  refine m_msl (f := fU) (B := w.heap.size) (0 : UInt8) fU_len rfl (by omega) (by decide) (Nat.le_refl _) ?_
  rintro vo w1 ho1 _ hx1
  simp only [↓vsd, vsn, gW, qd, qv, ev, pick, argE, List.map_cons, List.map_nil, Option.map_some, Option.map_none, zipE, List.cons_append, List.nil_append, ne_eq, eq_self, forall_const, implies_true, if_true, if_false, reduceIte, List.cons.injEq, reduceCtorEq, Nat.reduceEqDiff, List.length_nil, List.length_cons, Nat.reduceAdd, Nat.reduceLT, List.set_cons_zero, List.set_cons_succ, ↓us_iturned, r_iturned, ho1.sq.facts]
  rw [List.length_replicate]
  refine m_upto a.length (fun k vs w' => ∃ l : List UInt8, vs = [.int .i64 k] ∧ l.length = a.length ∧ (∀ j < k, l.getD (bell a j) 0 = UInt8.ofNat (49 + j)) ∧ Own fU 1 5 w.heap.size w' vo l ∧ Ext w w') ⟨_, rfl, List.length_replicate, fun j hj => absurd hj (Nat.not_lt_zero j), ho1, hx1⟩ ?_
  rintro k vs w2 hk ⟨l, rfl, hl, hget, ho, hx⟩
  by_cases hlt : k < a.length
  · have hltI : (k : Int) < a.length := by omega
    have hltJ : ¬ (a.length : Int) ≤ k := by omega
    have hlow := ha.low hlt
    have hhigh := ha.high hlt
    have hbe : ((a.getD k 0).toNat : Int) - 49 = (bell a k : Nat) := by unfold bell; omega
    have hbl := ha.bell_lt hlt
    simp only [↓vsd, vsn, gW, qd, qv, ev, pick, argE, List.map_cons, List.map_nil, Option.map_some, Option.map_none, zipE, List.cons_append, List.nil_append, ne_eq, eq_self, forall_const, implies_true, if_true, if_false, reduceIte, List.cons.injEq, reduceCtorEq, Nat.reduceEqDiff, List.length_nil, List.length_cons, Nat.reduceAdd, Nat.reduceLT, List.set_cons_zero, List.set_cons_succ, ↓us_iturned, r_iturned, hltI, hltJ, ho.sq.facts, hl, hbe]
    refine ⟨by omega, inR_u8 (by omega), inR_i64 (by omega), inR_u8 (by omega), by omega, m_set1 (bell a k) (UInt8.ofNat (49 + k)) ho rfl (by omega) (by simp [fU, UInt8.toNat_ofNat', cells_int]; omega) fU_one ?_⟩
    rintro w4 ho4 hg4 hs4
    simp only [↓vsd, vsn, gW, qd, qv, ev, pick, argE, List.map_cons, List.map_nil, Option.map_some, Option.map_none, zipE, List.cons_append, List.nil_append, ne_eq, eq_self, forall_const, implies_true, if_true, if_false, reduceIte, List.cons.injEq, reduceCtorEq, Nat.reduceEqDiff, List.length_nil, List.length_cons, Nat.reduceAdd, Nat.reduceLT, List.set_cons_zero, List.set_cons_succ, ↓us_iturned, r_iturned]
    refine ⟨inR_i64 (by omega), UpTo.next hlt ⟨_, rfl, by rw [List.length_set]; exact hl, fun j hj => ?_, ho4, ho.grown (hx) (Nat.le_refl _) hg4⟩⟩
    rw [getD_set]
    by_cases hjk : j = k
    · subst hjk
      rw [if_pos ⟨rfl, by omega⟩]
    · rw [if_neg (fun h => hjk (ha.inj' (by omega) hlt h.1.symm))]
      exact hget j (by omega)
  · obtain rfl : k = a.length := by omega
    have hltI : ¬ (a.length : Int) < a.length := by omega
    simp only [↓vsd, vsn, gW, qd, qv, ev, pick, argE, List.map_cons, List.map_nil, Option.map_some, Option.map_none, zipE, List.cons_append, List.nil_append, ne_eq, eq_self, forall_const, implies_true, if_true, if_false, reduceIte, List.cons.injEq, reduceCtorEq, Nat.reduceEqDiff, List.length_nil, List.length_cons, Nat.reduceAdd, Nat.reduceLT, List.set_cons_zero, List.set_cons_succ, ↓us_iturned, r_iturned, hltI]
    refine m_b2s ho.sq ?_
    simp only [↓vsd, vsn, gW, qd, qv, ev, pick, argE, List.map_cons, List.map_nil, Option.map_some, Option.map_none, zipE, List.cons_append, List.nil_append, ne_eq, eq_self, forall_const, implies_true, if_true, if_false, reduceIte, List.cons.injEq, reduceCtorEq, Nat.reduceEqDiff, List.length_nil, List.length_cons, Nat.reduceAdd, Nat.reduceLT, List.set_cons_zero, List.set_cons_succ, ↓us_iturned, r_iturned]
    exact ⟨hx, by rw [turn_unique ha hl hget]⟩
theorem sl1Turn_ok (a : List UInt8) (ha : IsRow a) (w : World) : Fn 106 [S a] w (fun r _ => r = S (turnL a)) := by
  (refine callsV_of mix Try.func106 c_sl1Turn ?_; simp only [↓vsd, vsn, gW, qd, qv, ev, pick, argE, List.map_cons, List.map_nil, Option.map_some, Option.map_none, zipE, List.cons_append, List.nil_append, ne_eq, eq_self, forall_const, implies_true, if_true, if_false, reduceIte, List.cons.injEq, reduceCtorEq, Nat.reduceEqDiff, List.length_nil, List.length_cons, Nat.reduceAdd, Nat.reduceLT, List.set_cons_zero, List.set_cons_succ, ↓us_sl1Turn, r_sl1Turn])
  have h8 := ha.1
  refine m_s2bU w.heap.size (by omega) (Nat.le_refl _) ?_
  rintro vo w1 ho1 hx1 _
  simp only [↓vsd, vsn, gW, qd, qv, ev, pick, argE, List.map_cons, List.map_nil, Option.map_some, Option.map_none, zipE, List.cons_append, List.nil_append, ne_eq, eq_self, forall_const, implies_true, if_true, if_false, reduceIte, List.cons.injEq, reduceCtorEq, Nat.reduceEqDiff, List.length_nil, List.length_cons, Nat.reduceAdd, Nat.reduceLT, List.set_cons_zero, List.set_cons_succ, ↓us_sl1Turn, r_sl1Turn]
  refine m_upto a.length (fun k vs w' => ∃ l : List UInt8, vs = [.int .i64 (k + 1 : Nat)] ∧ l.length = a.length ∧ (∀ j < k, l.getD (bell a j) 0 = UInt8.ofNat (49 + j)) ∧ Own fU 1 5 w.heap.size w' vo l ∧ Ext w w') ⟨_, rfl, rfl, fun j hj => absurd hj (Nat.not_lt_zero j), ho1, hx1⟩ ?_
  rintro k vs w2 hk ⟨l, rfl, hl, hget, ho, hx⟩
  by_cases hlt : k < a.length
  · have hltI : ((k + 1 : Nat) : Int) ≤ a.length := by omega
    have hltJ : ¬ (a.length : Int) < ((k + 1 : Nat) : Int) := by omega
    have hlow := ha.low hlt
    have hhigh := ha.high hlt
    have hbl := ha.bell_lt hlt
    simp only [↓vsd, vsn, gW, qd, qv, ev, pick, argE, List.map_cons, List.map_nil, Option.map_some, Option.map_none, zipE, List.cons_append, List.nil_append, ne_eq, eq_self, forall_const, implies_true, if_true, if_false, reduceIte, List.cons.injEq, reduceCtorEq, Nat.reduceEqDiff, List.length_nil, List.length_cons, Nat.reduceAdd, Nat.reduceLT, List.set_cons_zero, List.set_cons_succ, ↓us_sl1Turn, r_sl1Turn, hltI, hltJ]
    refine m_call (sl1At_ok a (k + 1) (by omega) (by rw [Nat.add_sub_cancel]; omega) (by omega) _) ?_
    rintro _ w3 hx3 rfl
    rw [Nat.add_sub_cancel]
    have hbe : ((a.getD k 0).toNat : Int) - 48 - 1 = (bell a k : Nat) := by unfold bell; omega
    have ho3 := ho.ext hx3
    have e49 : (48 : Int) + ((k + 1 : Nat) : Int) = 49 + (k : Nat) := by omega
    simp only [↓vsd, vsn, gW, qd, qv, ev, pick, argE, List.map_cons, List.map_nil, Option.map_some, Option.map_none, zipE, List.cons_append, List.nil_append, ne_eq, eq_self, forall_const, implies_true, if_true, if_false, reduceIte, List.cons.injEq, reduceCtorEq, Nat.reduceEqDiff, List.length_nil, List.length_cons, Nat.reduceAdd, Nat.reduceLT, List.set_cons_zero, List.set_cons_succ, ↓us_sl1Turn, r_sl1Turn, hbe, ho3.sq.facts, hl, e49]
    refine ⟨inR_i64 (by omega), inR_i64 (by omega), inR_u8 (by omega), by omega, m_set1 (bell a k) (UInt8.ofNat (49 + k)) ho3 rfl (by omega) (by simp [fU, UInt8.toNat_ofNat', cells_int]; omega) fU_one ?_⟩
    rintro w4 ho4 hg4 hs4
    simp only [↓vsd, vsn, gW, qd, qv, ev, pick, argE, List.map_cons, List.map_nil, Option.map_some, Option.map_none, zipE, List.cons_append, List.nil_append, ne_eq, eq_self, forall_const, implies_true, if_true, if_false, reduceIte, List.cons.injEq, reduceCtorEq, Nat.reduceEqDiff, List.length_nil, List.length_cons, Nat.reduceAdd, Nat.reduceLT, List.set_cons_zero, List.set_cons_succ, ↓us_sl1Turn, r_sl1Turn]
    refine ⟨inR_i64 (by omega), UpTo.next hlt ⟨_, rfl, by rw [List.length_set]; exact hl, fun j hj => ?_, ho4, ho3.grown (hx.trans hx3) (Nat.le_refl _) hg4⟩⟩
    rw [getD_set]
    by_cases hjk : j = k
    · subst hjk
      rw [if_pos ⟨rfl, by omega⟩]
    · rw [if_neg (fun h => hjk (ha.inj' (by omega) hlt h.1.symm))]
      exact hget j (by omega)
  · obtain rfl : k = a.length := by omega
    have hltI : ¬ ((a.length + 1 : Nat) : Int) ≤ a.length := by omega
    simp only [↓vsd, vsn, gW, qd, qv, ev, pick, argE, List.map_cons, List.map_nil, Option.map_some, Option.map_none, zipE, List.cons_append, List.nil_append, ne_eq, eq_self, forall_const, implies_true, if_true, if_false, reduceIte, List.cons.injEq, reduceCtorEq, Nat.reduceEqDiff, List.length_nil, List.length_cons, Nat.reduceAdd, Nat.reduceLT, List.set_cons_zero, List.set_cons_succ, ↓us_sl1Turn, r_sl1Turn, hltI]
    refine m_b2s ho.sq ?_
    simp only [↓vsd, vsn, gW, qd, qv, ev, pick, argE, List.map_cons, List.map_nil, Option.map_some, Option.map_none, zipE, List.cons_append, List.nil_append, ne_eq, eq_self, forall_const, implies_true, if_true, if_false, reduceIte, List.cons.injEq, reduceCtorEq, Nat.reduceEqDiff, List.length_nil, List.length_cons, Nat.reduceAdd, Nat.reduceLT, List.set_cons_zero, List.set_cons_succ, ↓us_sl1Turn, r_sl1Turn]
    exact ⟨hx, by rw [turn_unique ha hl hget]⟩
theorem iTurnRow_ok (a : List UInt8) (w : World) : Fn 29 [S a] w (fun r _ => r = turnRV a) := by
  (refine callsV_of mix Try.func29 c_iTurnRow ?_; simp only [↓vsd, vsn, gW, qd, qv, ev, pick, argE, List.map_cons, List.map_nil, Option.map_some, Option.map_none, zipE, List.cons_append, List.nil_append, ne_eq, eq_self, forall_const, implies_true, if_true, if_false, reduceIte, List.cons.injEq, reduceCtorEq, Nat.reduceEqDiff, List.length_nil, List.length_cons, Nat.reduceAdd, Nat.reduceLT, List.set_cons_zero, List.set_cons_succ, ↓us_iTurnRow, r_iTurnRow])
  refine m_call (iGoodRow_ok _ _) ?_
  rintro _ w1 hx1 rfl
  simp only [↓vsd, vsn, gW, qd, qv, ev, pick, argE, List.map_cons, List.map_nil, Option.map_some, Option.map_none, zipE, List.cons_append, List.nil_append, ne_eq, eq_self, forall_const, implies_true, if_true, if_false, reduceIte, List.cons.injEq, reduceCtorEq, Nat.reduceEqDiff, List.length_nil, List.length_cons, Nat.reduceAdd, Nat.reduceLT, List.set_cons_zero, List.set_cons_succ, ↓us_iTurnRow, r_iTurnRow]
  refine ⟨fun h => ⟨hx1, by rw [turnRV, if_neg h]⟩, fun h => m_call (iturned_ok a h _) ?_⟩
  rintro _ w2 hx2 rfl
  simp only [↓vsd, vsn, gW, qd, qv, ev, pick, argE, List.map_cons, List.map_nil, Option.map_some, Option.map_none, zipE, List.cons_append, List.nil_append, ne_eq, eq_self, forall_const, implies_true, if_true, if_false, reduceIte, List.cons.injEq, reduceCtorEq, Nat.reduceEqDiff, List.length_nil, List.length_cons, Nat.reduceAdd, Nat.reduceLT, List.set_cons_zero, List.set_cons_succ, ↓us_iTurnRow, r_iTurnRow]
  exact ⟨hx1.trans hx2, by rw [turnRV, if_pos h]⟩
theorem sTurnRow_ok (a : List UInt8) (w : World) : Fn 31 [S a] w (fun r _ => r = turnRV a) := by
  (refine callsV_of mix Try.func31 c_sTurnRow ?_; simp only [↓vsd, vsn, gW, qd, qv, ev, pick, argE, List.map_cons, List.map_nil, Option.map_some, Option.map_none, zipE, List.cons_append, List.nil_append, ne_eq, eq_self, forall_const, implies_true, if_true, if_false, reduceIte, List.cons.injEq, reduceCtorEq, Nat.reduceEqDiff, List.length_nil, List.length_cons, Nat.reduceAdd, Nat.reduceLT, List.set_cons_zero, List.set_cons_succ, ↓us_sTurnRow, r_sTurnRow])
  refine m_call (sl1Row_ok _ _) ?_
  rintro _ w1 hx1 rfl
  simp only [↓vsd, vsn, gW, qd, qv, ev, pick, argE, List.map_cons, List.map_nil, Option.map_some, Option.map_none, zipE, List.cons_append, List.nil_append, ne_eq, eq_self, forall_const, implies_true, if_true, if_false, reduceIte, List.cons.injEq, reduceCtorEq, Nat.reduceEqDiff, List.length_nil, List.length_cons, Nat.reduceAdd, Nat.reduceLT, List.set_cons_zero, List.set_cons_succ, ↓us_sTurnRow, r_sTurnRow]
  refine ⟨fun h => ⟨hx1, by rw [turnRV, if_neg h]⟩, fun h => m_call (sl1Turn_ok a h _) ?_⟩
  rintro _ w2 hx2 rfl
  simp only [↓vsd, vsn, gW, qd, qv, ev, pick, argE, List.map_cons, List.map_nil, Option.map_some, Option.map_none, zipE, List.cons_append, List.nil_append, ne_eq, eq_self, forall_const, implies_true, if_true, if_false, reduceIte, List.cons.injEq, reduceCtorEq, Nat.reduceEqDiff, List.length_nil, List.length_cons, Nat.reduceAdd, Nat.reduceLT, List.set_cons_zero, List.set_cons_succ, ↓us_sTurnRow, r_sTurnRow]
  exact ⟨hx1.trans hx2, by rw [turnRV, if_pos h]⟩
theorem iRoundsOf_ok (n : Int) (w : World) : Fn 27 [.int .i64 n] w (fun r _ => r = roundsV n) := by
  (refine callsV_of mix Try.func27 c_iRoundsOf ?_; simp only [↓vsd, vsn, gW, qd, qv, ev, pick, argE, List.map_cons, List.map_nil, Option.map_some, Option.map_none, zipE, List.cons_append, List.nil_append, ne_eq, eq_self, forall_const, implies_true, if_true, if_false, reduceIte, List.cons.injEq, reduceCtorEq, Nat.reduceEqDiff, List.length_nil, List.length_cons, Nat.reduceAdd, Nat.reduceLT, List.set_cons_zero, List.set_cons_succ, ↓us_iRoundsOf, r_iRoundsOf])
  refine m_call (iisStage_ok _ _) ?_
  rintro _ w1 hx1 rfl
  simp only [↓vsd, vsn, gW, qd, qv, ev, pick, argE, List.map_cons, List.map_nil, Option.map_some, Option.map_none, zipE, List.cons_append, List.nil_append, ne_eq, eq_self, forall_const, implies_true, if_true, if_false, reduceIte, List.cons.injEq, reduceCtorEq, Nat.reduceEqDiff, List.length_nil, List.length_cons, Nat.reduceAdd, Nat.reduceLT, List.set_cons_zero, List.set_cons_succ, ↓us_iRoundsOf, r_iRoundsOf]
  refine ⟨fun hn => ⟨hx1, by rw [roundsV, if_neg (by omega)]⟩, fun hy => ?_⟩
  obtain ⟨n, rfl⟩ : ∃ k : Nat, n = k := ⟨n.toNat, by omega⟩
  refine m_call (irounds_ok n (by omega) _) ?_
  rintro _ w2 hx2 rfl
  simp only [↓vsd, vsn, gW, qd, qv, ev, pick, argE, List.map_cons, List.map_nil, Option.map_some, Option.map_none, zipE, List.cons_append, List.nil_append, ne_eq, eq_self, forall_const, implies_true, if_true, if_false, reduceIte, List.cons.injEq, reduceCtorEq, Nat.reduceEqDiff, List.length_nil, List.length_cons, Nat.reduceAdd, Nat.reduceLT, List.set_cons_zero, List.set_cons_succ, ↓us_iRoundsOf, r_iRoundsOf]
  exact ⟨hx1.trans hx2, by rw [roundsV, if_pos hy]; rfl⟩
theorem sRoundsOf_ok (n : Int) (w : World) : Fn 33 [.int .i64 n] w (fun r _ => r = roundsV n) := by
  (refine callsV_of mix Try.func33 c_sRoundsOf ?_; simp only [↓vsd, vsn, gW, qd, qv, ev, pick, argE, List.map_cons, List.map_nil, Option.map_some, Option.map_none, zipE, List.cons_append, List.nil_append, ne_eq, eq_self, forall_const, implies_true, if_true, if_false, reduceIte, List.cons.injEq, reduceCtorEq, Nat.reduceEqDiff, List.length_nil, List.length_cons, Nat.reduceAdd, Nat.reduceLT, List.set_cons_zero, List.set_cons_succ, ↓us_sRoundsOf, r_sRoundsOf])
  refine m_call (sl1In_ok _ _ _ _) ?_
  rintro _ w1 hx1 rfl
  simp only [↓vsd, vsn, gW, qd, qv, ev, pick, argE, List.map_cons, List.map_nil, Option.map_some, Option.map_none, zipE, List.cons_append, List.nil_append, ne_eq, eq_self, forall_const, implies_true, if_true, if_false, reduceIte, List.cons.injEq, reduceCtorEq, Nat.reduceEqDiff, List.length_nil, List.length_cons, Nat.reduceAdd, Nat.reduceLT, List.set_cons_zero, List.set_cons_succ, ↓us_sRoundsOf, r_sRoundsOf]
  refine ⟨fun hn => ⟨hx1, by rw [roundsV, if_neg (by omega)]⟩, fun hy => ?_⟩
  obtain ⟨n, rfl⟩ : ∃ k : Nat, n = k := ⟨n.toNat, by omega⟩
  refine m_call (sl1Rounds_ok n (by omega) _) ?_
  rintro _ w2 hx2 rfl
  simp only [↓vsd, vsn, gW, qd, qv, ev, pick, argE, List.map_cons, List.map_nil, Option.map_some, Option.map_none, zipE, List.cons_append, List.nil_append, ne_eq, eq_self, forall_const, implies_true, if_true, if_false, reduceIte, List.cons.injEq, reduceCtorEq, Nat.reduceEqDiff, List.length_nil, List.length_cons, Nat.reduceAdd, Nat.reduceLT, List.set_cons_zero, List.set_cons_succ, ↓us_sRoundsOf, r_sRoundsOf]
  exact ⟨hx1.trans hx2, by rw [roundsV, if_pos hy]; rfl⟩
theorem iPowerOf_ok (a : List UInt8) (k : Int) (w : World) : Fn 28 [S a, .int .i64 k] w (fun r _ => r = powV a k) := by
  (refine callsV_of mix Try.func28 c_iPowerOf ?_; simp only [↓vsd, vsn, gW, qd, qv, ev, pick, argE, List.map_cons, List.map_nil, Option.map_some, Option.map_none, zipE, List.cons_append, List.nil_append, ne_eq, eq_self, forall_const, implies_true, if_true, if_false, reduceIte, List.cons.injEq, reduceCtorEq, Nat.reduceEqDiff, List.length_nil, List.length_cons, Nat.reduceAdd, Nat.reduceLT, List.set_cons_zero, List.set_cons_succ, ↓us_iPowerOf, r_iPowerOf])
  refine m_call (iGoodRow_ok _ _) ?_
  rintro _ w1 hx1 rfl
  simp only [↓vsd, vsn, gW, qd, qv, ev, pick, argE, List.map_cons, List.map_nil, Option.map_some, Option.map_none, zipE, List.cons_append, List.nil_append, ne_eq, eq_self, forall_const, implies_true, if_true, if_false, reduceIte, List.cons.injEq, reduceCtorEq, Nat.reduceEqDiff, List.length_nil, List.length_cons, Nat.reduceAdd, Nat.reduceLT, List.set_cons_zero, List.set_cons_succ, ↓us_iPowerOf, r_iPowerOf]
  refine ⟨fun hbad => ⟨hx1, ?_⟩, fun hg => ⟨fun hneg => m_call (iturned_ok a hg.1.1 _) ?_, fun hpos => ?_⟩⟩
  · rw [powV, if_neg]
    rintro ⟨h1, h2, h3⟩
    rcases hbad with (h | h) | h
    · exact h h1
    · omega
    · omega
  · rintro _ w2 hx2 rfl
    have h8 := hg.1.1.1
    obtain ⟨q, hq⟩ : ∃ q : Nat, 0 - k = q := ⟨(-k).toNat, by omega⟩
    have htl := turnL_len a
    simp only [↓vsd, vsn, gW, qd, qv, ev, pick, argE, List.map_cons, List.map_nil, Option.map_some, Option.map_none, zipE, List.cons_append, List.nil_append, ne_eq, eq_self, forall_const, implies_true, if_true, if_false, reduceIte, List.cons.injEq, reduceCtorEq, Nat.reduceEqDiff, List.length_nil, List.length_cons, Nat.reduceAdd, Nat.reduceLT, List.set_cons_zero, List.set_cons_succ, ↓us_iPowerOf, r_iPowerOf, hq, htl]
    refine ⟨inR_i64 (by omega), ?_⟩
    refine m_call (irounds_ok _ (by omega) _) ?_
    rintro _ w3 hx3 rfl
    simp only [↓vsd, vsn, gW, qd, qv, ev, pick, argE, List.map_cons, List.map_nil, Option.map_some, Option.map_none, zipE, List.cons_append, List.nil_append, ne_eq, eq_self, forall_const, implies_true, if_true, if_false, reduceIte, List.cons.injEq, reduceCtorEq, Nat.reduceEqDiff, List.length_nil, List.length_cons, Nat.reduceAdd, Nat.reduceLT, List.set_cons_zero, List.set_cons_succ, ↓us_iPowerOf, r_iPowerOf]
    refine m_upto q (fun i vs w' => vs = [S (powL (turnL a) i), .int .i64 i] ∧ Ext w w') ⟨by rw [powL, turnL_len]; rfl, (hx1.trans hx2).trans hx3⟩ ?_
    rintro i vs w4 hi ⟨rfl, hx4⟩
    by_cases hlt : i < q
    · have hltI : (i : Int) < q := by omega
      have hltJ : ¬ (q : Int) ≤ i := by omega
      simp only [↓vsd, vsn, gW, qd, qv, ev, pick, argE, List.map_cons, List.map_nil, Option.map_some, Option.map_none, zipE, List.cons_append, List.nil_append, ne_eq, eq_self, forall_const, implies_true, if_true, if_false, reduceIte, List.cons.injEq, reduceCtorEq, Nat.reduceEqDiff, List.length_nil, List.length_cons, Nat.reduceAdd, Nat.reduceLT, List.set_cons_zero, List.set_cons_succ, ↓us_iPowerOf, r_iPowerOf, hltI, hltJ]
      refine m_call (itimes_ok (powL (turnL a) i) (turnL a) (turnL_row hg.1.1) (powL_len _ _) _) ?_
      rintro _ w5 hx5 rfl
      simp only [↓vsd, vsn, gW, qd, qv, ev, pick, argE, List.map_cons, List.map_nil, Option.map_some, Option.map_none, zipE, List.cons_append, List.nil_append, ne_eq, eq_self, forall_const, implies_true, if_true, if_false, reduceIte, List.cons.injEq, reduceCtorEq, Nat.reduceEqDiff, List.length_nil, List.length_cons, Nat.reduceAdd, Nat.reduceLT, List.set_cons_zero, List.set_cons_succ, ↓us_iPowerOf, r_iPowerOf]
      exact ⟨inR_i64 (by omega), UpTo.next hlt ⟨rfl, hx4.trans hx5⟩⟩
    · obtain rfl : i = q := by omega
      have hltI : ¬ (i : Int) < i := by omega
      simp only [↓vsd, vsn, gW, qd, qv, ev, pick, argE, List.map_cons, List.map_nil, Option.map_some, Option.map_none, zipE, List.cons_append, List.nil_append, ne_eq, eq_self, forall_const, implies_true, if_true, if_false, reduceIte, List.cons.injEq, reduceCtorEq, Nat.reduceEqDiff, List.length_nil, List.length_cons, Nat.reduceAdd, Nat.reduceLT, List.set_cons_zero, List.set_cons_succ, ↓us_iPowerOf, r_iPowerOf, hltI]
      exact ⟨hx4, by rw [powV, if_pos ⟨hg.1.1, hg.1.2, hg.2⟩, powZ, if_pos hneg, show (-k).toNat = i by omega]⟩
  · have h8 := hg.1.1.1
    obtain ⟨q, rfl⟩ : ∃ q : Nat, k = q := ⟨k.toNat, by omega⟩
    refine m_call (irounds_ok _ (by omega) _) ?_
    rintro _ w3 hx3 rfl
    simp only [↓vsd, vsn, gW, qd, qv, ev, pick, argE, List.map_cons, List.map_nil, Option.map_some, Option.map_none, zipE, List.cons_append, List.nil_append, ne_eq, eq_self, forall_const, implies_true, if_true, if_false, reduceIte, List.cons.injEq, reduceCtorEq, Nat.reduceEqDiff, List.length_nil, List.length_cons, Nat.reduceAdd, Nat.reduceLT, List.set_cons_zero, List.set_cons_succ, ↓us_iPowerOf, r_iPowerOf]
    refine m_upto q (fun i vs w' => vs = [S (powL a i), .int .i64 i] ∧ Ext w w') ⟨rfl, hx1.trans hx3⟩ ?_
    rintro i vs w4 hi ⟨rfl, hx4⟩
    by_cases hlt : i < q
    · have hltI : (i : Int) < q := by omega
      have hltJ : ¬ (q : Int) ≤ i := by omega
      simp only [↓vsd, vsn, gW, qd, qv, ev, pick, argE, List.map_cons, List.map_nil, Option.map_some, Option.map_none, zipE, List.cons_append, List.nil_append, ne_eq, eq_self, forall_const, implies_true, if_true, if_false, reduceIte, List.cons.injEq, reduceCtorEq, Nat.reduceEqDiff, List.length_nil, List.length_cons, Nat.reduceAdd, Nat.reduceLT, List.set_cons_zero, List.set_cons_succ, ↓us_iPowerOf, r_iPowerOf, hltI, hltJ]
      refine m_call (itimes_ok (powL a i) a hg.1.1 (powL_len _ _) _) ?_
      rintro _ w5 hx5 rfl
      simp only [↓vsd, vsn, gW, qd, qv, ev, pick, argE, List.map_cons, List.map_nil, Option.map_some, Option.map_none, zipE, List.cons_append, List.nil_append, ne_eq, eq_self, forall_const, implies_true, if_true, if_false, reduceIte, List.cons.injEq, reduceCtorEq, Nat.reduceEqDiff, List.length_nil, List.length_cons, Nat.reduceAdd, Nat.reduceLT, List.set_cons_zero, List.set_cons_succ, ↓us_iPowerOf, r_iPowerOf]
      exact ⟨inR_i64 (by omega), UpTo.next hlt ⟨rfl, hx4.trans hx5⟩⟩
    · obtain rfl : i = q := by omega
      have hltI : ¬ (i : Int) < i := by omega
      simp only [↓vsd, vsn, gW, qd, qv, ev, pick, argE, List.map_cons, List.map_nil, Option.map_some, Option.map_none, zipE, List.cons_append, List.nil_append, ne_eq, eq_self, forall_const, implies_true, if_true, if_false, reduceIte, List.cons.injEq, reduceCtorEq, Nat.reduceEqDiff, List.length_nil, List.length_cons, Nat.reduceAdd, Nat.reduceLT, List.set_cons_zero, List.set_cons_succ, ↓us_iPowerOf, r_iPowerOf, hltI]
      exact ⟨hx4, by rw [powV, if_pos ⟨hg.1.1, hg.1.2, hg.2⟩, powZ, if_neg (by omega)]; rfl⟩
theorem sGoodRow_ok (l : List UInt8) (w : World) : Fn 25 [S l] w (fun v _ => v = .bool (decide (IsRow l))) := by
  (refine callsV_of mix Try.func25 c_sGoodRow ?_; simp only [↓vsd, vsn, gW, qd, qv, ev, pick, argE, List.map_cons, List.map_nil, Option.map_some, Option.map_none, zipE, List.cons_append, List.nil_append, ne_eq, eq_self, forall_const, implies_true, if_true, if_false, reduceIte, List.cons.injEq, reduceCtorEq, Nat.reduceEqDiff, List.length_nil, List.length_cons, Nat.reduceAdd, Nat.reduceLT, List.set_cons_zero, List.set_cons_succ, ↓us_sGoodRow, r_sGoodRow])
  refine m_call (sl1Row_ok _ _) ?_
  rintro _ w1 hx1 rfl
  simp only [↓vsd, vsn, gW, qd, qv, ev, pick, argE, List.map_cons, List.map_nil, Option.map_some, Option.map_none, zipE, List.cons_append, List.nil_append, ne_eq, eq_self, forall_const, implies_true, if_true, if_false, reduceIte, List.cons.injEq, reduceCtorEq, Nat.reduceEqDiff, List.length_nil, List.length_cons, Nat.reduceAdd, Nat.reduceLT, List.set_cons_zero, List.set_cons_succ, ↓us_sGoodRow, r_sGoodRow]
  exact hx1
theorem lbig_ok (v u : Value) (a b : List UInt8) (ha : a.length ≤ 9223372036854775807) (hb : b.length ≤ 9223372036854775807) (w : World) (h : Sq fU 1 w v a) (h' : Sq fU 1 w u b) : Fn 20 [v, u] w (fun r _ => r = .bool (decide (1048576 < a.length + b.length))) := by
  (refine callsV_of mix Try.func20 c_lbig ?_; simp only [↓vsd, vsn, gW, qd, qv, ev, pick, argE, List.map_cons, List.map_nil, Option.map_some, Option.map_none, zipE, List.cons_append, List.nil_append, ne_eq, eq_self, forall_const, implies_true, if_true, if_false, reduceIte, List.cons.injEq, reduceCtorEq, Nat.reduceEqDiff, List.length_nil, List.length_cons, Nat.reduceAdd, Nat.reduceLT, List.set_cons_zero, List.set_cons_succ, ↓us_lbig, r_lbig])
  simp only [↓vsd, vsn, gW, qd, qv, ev, pick, argE, List.map_cons, List.map_nil, Option.map_some, Option.map_none, zipE, List.cons_append, List.nil_append, ne_eq, eq_self, forall_const, implies_true, if_true, if_false, reduceIte, List.cons.injEq, reduceCtorEq, Nat.reduceEqDiff, List.length_nil, List.length_cons, Nat.reduceAdd, Nat.reduceLT, List.set_cons_zero, List.set_cons_succ, ↓us_lbig, r_lbig, h.facts, h'.facts]
  refine ⟨fun _ => inR_i64 (by omega), Ext.refl _, ?_⟩
  rw [← Bool.decide_or]
  congr 1
  exact propext ⟨fun h => by omega, fun h => by omega⟩
theorem lnumberOf_ok (v : Value) (l : List UInt8) (hl : l.length ≤ 1048576) (w : World) (h : Sq fU 1 w v l) : Fn 26 [v] w (fun r _ => ∃ n : Nat, r = .int .i64 n ∧ n < 1000003) := by
  (refine callsV_of mix Try.func26 c_lnumberOf ?_; simp only [↓vsd, vsn, gW, qd, qv, ev, pick, argE, List.map_cons, List.map_nil, Option.map_some, Option.map_none, zipE, List.cons_append, List.nil_append, ne_eq, eq_self, forall_const, implies_true, if_true, if_false, reduceIte, List.cons.injEq, reduceCtorEq, Nat.reduceEqDiff, List.length_nil, List.length_cons, Nat.reduceAdd, Nat.reduceLT, List.set_cons_zero, List.set_cons_succ, ↓us_lnumberOf, r_lnumberOf])
  simp only [↓vsd, vsn, gW, qd, qv, ev, pick, argE, List.map_cons, List.map_nil, Option.map_some, Option.map_none, zipE, List.cons_append, List.nil_append, ne_eq, eq_self, forall_const, implies_true, if_true, if_false, reduceIte, List.cons.injEq, reduceCtorEq, Nat.reduceEqDiff, List.length_nil, List.length_cons, Nat.reduceAdd, Nat.reduceLT, List.set_cons_zero, List.set_cons_succ, ↓us_lnumberOf, r_lnumberOf, h.facts]
  refine m_upto l.length (fun k vs w' => ∃ n : Nat, vs = [.int .i64 n, .int .i64 k] ∧ n < 1000003 ∧ Ext w w') ⟨0, rfl, by omega, Ext.refl _⟩ ?_
  rintro k vs w1 hk ⟨n, rfl, hn, hx⟩
  have hq := h.ext hx
  by_cases hlt : k < l.length
  · have hltI : (k : Int) < l.length := by omega
    have hltJ : ¬ (l.length : Int) ≤ k := by omega
    have hcl := (l.getD k 0).toNat_lt
    have e : (31 : Int) * (n : Nat) + ((l.getD k 0).toNat : Nat) = ((31 * n + (l.getD k 0).toNat : Nat) : Int) := by omega
    simp only [↓vsd, vsn, gW, qd, qv, ev, pick, argE, List.map_cons, List.map_nil, Option.map_some, Option.map_none, zipE, List.cons_append, List.nil_append, ne_eq, eq_self, forall_const, implies_true, if_true, if_false, reduceIte, List.cons.injEq, reduceCtorEq, Nat.reduceEqDiff, List.length_nil, List.length_cons, Nat.reduceAdd, Nat.reduceLT, List.set_cons_zero, List.set_cons_succ, ↓us_lnumberOf, r_lnumberOf, hq.facts, hq.at1 0 hlt, hltI, hltJ, e]
    refine ⟨by omega, inR_i64 (by omega), inR_i64 (by omega), by decide, inR_i64 (by omega), UpTo.next hlt ⟨(31 * n + (l.getD k 0).toNat) % 1000003, ?_, Nat.mod_lt _ (by decide), hx⟩⟩
    rw [Int.tmod_eq_emod_of_nonneg (by omega)]
    rfl
  · obtain rfl : k = l.length := by omega
    have hltI : ¬ (l.length : Int) < l.length := by omega
    simp only [↓vsd, vsn, gW, qd, qv, ev, pick, argE, List.map_cons, List.map_nil, Option.map_some, Option.map_none, zipE, List.cons_append, List.nil_append, ne_eq, eq_self, forall_const, implies_true, if_true, if_false, reduceIte, List.cons.injEq, reduceCtorEq, Nat.reduceEqDiff, List.length_nil, List.length_cons, Nat.reduceAdd, Nat.reduceLT, List.set_cons_zero, List.set_cons_succ, ↓us_lnumberOf, r_lnumberOf, hltI]
    exact ⟨hx, n, rfl, hn⟩
end Go.Proofs.Ytnocgihggdgkeaa
