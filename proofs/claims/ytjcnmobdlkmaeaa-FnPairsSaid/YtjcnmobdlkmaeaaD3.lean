/-
  Products, inverses, powers and rounds of rows, as program and reference compute them.
  Conditions: none.
-/
import Derived.Test.YtjcnmobdlkmaeaaA10
import Derived.Test.YtjcnmobdlkmaeaaD2
set_option linter.unusedSimpArgs false
set_option linter.unusedVariables false
set_option linter.defProp false
namespace Go.Proofs.Ytjcnmobdlkmaeaa
open Go Go.RowKit
def t_iTimes_1 : X := (.cond (.t 15) (.seq (.reg [4, 5] (.c (.q 4 [] (.mv (.s []))) (.c (.q 5 [] (.mv (.c (.bool false)))) .nil))) .ret) .skip)
theorem u_iTimes_1 (P : Program) (k : KT) (e : Env) (w : World) : vcK P t_iTimes_1 k e w = vcK P (.cond (.t 15) (.seq (.reg [4, 5] (.c (.q 4 [] (.mv (.s []))) (.c (.q 5 [] (.mv (.c (.bool false)))) .nil))) .ret) .skip) k e w := rfl
def t_iTimes_2 : X := (.seq (.reg [4, 5] (.c (.q 16 [] (.mv (.t 0))) (.c (.q 17 [] (.mv (.t 1))) (.c (.e (some 18) [] (.call false 213 [(.t 16), (.t 17)])) (.c (.q 4 [] (.mv (.t 18))) (.c (.q 5 [] (.mv (.c (.bool true)))) .nil)))))) .ret)
theorem u_iTimes_2 (P : Program) (k : KT) (e : Env) (w : World) : vcK P t_iTimes_2 k e w = vcK P (.seq (.reg [4, 5] (.c (.q 16 [] (.mv (.t 0))) (.c (.q 17 [] (.mv (.t 1))) (.c (.e (some 18) [] (.call false 213 [(.t 16), (.t 17)])) (.c (.q 4 [] (.mv (.t 18))) (.c (.q 5 [] (.mv (.c (.bool true)))) .nil)))))) .ret) k e w := rfl
def t_iTimes_3 : X := (.seq (.seq (.reg [0, 1, 15] (.c (.q 6 [] (.mv (.t 0))) (.c (.e (some 7) [] (.call false 150 [(.t 6)])) (.c (.q 8 [] (.not (.t 7))) (.c (.q 9 [] (.mv (.t 8))) (.c (.q 10 [(9, false)] (.mv (.t 0))) (.c (.q 11 [(9, false)] (.len (.t 10))) (.c (.q 12 [(9, false)] (.mv (.t 1))) (.c (.e (some 13) [(9, false)] (.call false 154 [(.t 11), (.t 12)])) (.c (.q 14 [(9, false)] (.not (.t 13))) (.c (.q 15 [] (.pick (.t 9) (.c (.bool true)) (.t 14))) .nil))))))))))) t_iTimes_1) t_iTimes_2)
theorem u_iTimes_3 (P : Program) (k : KT) (e : Env) (w : World) : vcK P t_iTimes_3 k e w = vcK P (.seq (.seq (.reg [0, 1, 15] (.c (.q 6 [] (.mv (.t 0))) (.c (.e (some 7) [] (.call false 150 [(.t 6)])) (.c (.q 8 [] (.not (.t 7))) (.c (.q 9 [] (.mv (.t 8))) (.c (.q 10 [(9, false)] (.mv (.t 0))) (.c (.q 11 [(9, false)] (.len (.t 10))) (.c (.q 12 [(9, false)] (.mv (.t 1))) (.c (.e (some 13) [(9, false)] (.call false 154 [(.t 11), (.t 12)])) (.c (.q 14 [(9, false)] (.not (.t 13))) (.c (.q 15 [] (.pick (.t 9) (.c (.bool true)) (.t 14))) .nil))))))))))) t_iTimes_1) t_iTimes_2) k e w := rfl
def x_iTimes : X := (.seq (.reg [0, 1] (.c (.q 4 [] (.mv (.s []))) (.c (.q 5 [] (.mv (.c (.bool false)))) .nil))) t_iTimes_3)
theorem u_iTimes (P : Program) (k : KT) (e : Env) (w : World) : vcK P x_iTimes k e w = vcK P (.seq (.reg [0, 1] (.c (.q 4 [] (.mv (.s []))) (.c (.q 5 [] (.mv (.c (.bool false)))) .nil))) t_iTimes_3) k e w := rfl
def r_iTimes : List XO := [(.mv (.t 4)), (.mv (.t 5))]
theorem c_iTimes : convF Try.prog [145, 147, 148, 149, 158, 205, 206, 232, 234, 247, 248, 256, 261, 283, 284, 299, 300, 307] Try.f72 [([0, 1], []), ([0, 1, 15], []), ([4, 5], []), ([4, 5], [])] = some (x_iTimes, r_iTimes) := by kernel_rfl
def us_iTimes := And.intro @u_iTimes (And.intro @u_iTimes_1 (And.intro @u_iTimes_2 @u_iTimes_3))
def t_sTimes_1 : X := (.cond (.t 9) (.seq (.reg [4, 5] (.c (.q 4 [] (.mv (.s []))) (.c (.q 5 [] (.mv (.c (.bool false)))) .nil))) .ret) .skip)
theorem u_sTimes_1 (P : Program) (k : KT) (e : Env) (w : World) : vcK P t_sTimes_1 k e w = vcK P (.cond (.t 9) (.seq (.reg [4, 5] (.c (.q 4 [] (.mv (.s []))) (.c (.q 5 [] (.mv (.c (.bool false)))) .nil))) .ret) .skip) k e w := rfl
def t_sTimes_2 : X := (.seq (.reg [4, 5] (.c (.q 10 [] (.mv (.t 0))) (.c (.q 11 [] (.mv (.t 1))) (.c (.e (some 12) [] (.call false 245 [(.t 10), (.t 11)])) (.c (.q 4 [] (.mv (.t 12))) (.c (.q 5 [] (.mv (.c (.bool true)))) .nil)))))) .ret)
theorem u_sTimes_2 (P : Program) (k : KT) (e : Env) (w : World) : vcK P t_sTimes_2 k e w = vcK P (.seq (.reg [4, 5] (.c (.q 10 [] (.mv (.t 0))) (.c (.q 11 [] (.mv (.t 1))) (.c (.e (some 12) [] (.call false 245 [(.t 10), (.t 11)])) (.c (.q 4 [] (.mv (.t 12))) (.c (.q 5 [] (.mv (.c (.bool true)))) .nil)))))) .ret) k e w := rfl
def t_sTimes_3 : X := (.seq (.seq (.reg [0, 1, 9] (.c (.q 6 [] (.mv (.t 0))) (.c (.q 7 [] (.mv (.t 1))) (.c (.e (some 8) [] (.call false 244 [(.t 6), (.t 7)])) (.c (.q 9 [] (.not (.t 8))) .nil))))) t_sTimes_1) t_sTimes_2)
theorem u_sTimes_3 (P : Program) (k : KT) (e : Env) (w : World) : vcK P t_sTimes_3 k e w = vcK P (.seq (.seq (.reg [0, 1, 9] (.c (.q 6 [] (.mv (.t 0))) (.c (.q 7 [] (.mv (.t 1))) (.c (.e (some 8) [] (.call false 244 [(.t 6), (.t 7)])) (.c (.q 9 [] (.not (.t 8))) .nil))))) t_sTimes_1) t_sTimes_2) k e w := rfl
def x_sTimes : X := (.seq (.reg [0, 1] (.c (.q 4 [] (.mv (.s []))) (.c (.q 5 [] (.mv (.c (.bool false)))) .nil))) t_sTimes_3)
theorem u_sTimes (P : Program) (k : KT) (e : Env) (w : World) : vcK P x_sTimes k e w = vcK P (.seq (.reg [0, 1] (.c (.q 4 [] (.mv (.s []))) (.c (.q 5 [] (.mv (.c (.bool false)))) .nil))) t_sTimes_3) k e w := rfl
def r_sTimes : List XO := [(.mv (.t 4)), (.mv (.t 5))]
theorem c_sTimes : convF Try.prog [145, 147, 148, 149, 158, 205, 206, 232, 234, 247, 248, 256, 261, 283, 284, 299, 300, 307] Try.f110 [([0, 1], []), ([0, 1, 9], []), ([4, 5], []), ([4, 5], [])] = some (x_sTimes, r_sTimes) := by kernel_rfl
def us_sTimes := And.intro @u_sTimes (And.intro @u_sTimes_1 (And.intro @u_sTimes_2 @u_sTimes_3))
def t_sl1Two_1 : X := (.seq (.reg [4] (.c (.q 5 [] (.mv (.t 0))) (.c (.e (some 6) [] (.call false 146 [(.t 5)])) (.c (.q 7 [] (.mv (.t 6))) (.c (.q 8 [(7, true)] (.mv (.t 1))) (.c (.e (some 9) [(7, true)] (.call false 146 [(.t 8)])) (.c (.q 10 [] (.pick (.t 7) (.t 9) (.c (.bool false)))) (.c (.q 11 [] (.mv (.t 10))) (.c (.q 12 [(11, true)] (.mv (.t 0))) (.c (.q 13 [(11, true)] (.len (.t 12))) (.c (.q 14 [(11, true)] (.mv (.t 1))) (.c (.q 15 [(11, true)] (.len (.t 14))) (.c (.q 16 [(11, true)] (.bin .eql (.t 13) (.t 15))) (.c (.q 17 [] (.pick (.t 11) (.t 16) (.c (.bool false)))) (.c (.q 4 [] (.mv (.t 17))) .nil))))))))))))))) .ret)
theorem u_sl1Two_1 (P : Program) (k : KT) (e : Env) (w : World) : vcK P t_sl1Two_1 k e w = vcK P (.seq (.reg [4] (.c (.q 5 [] (.mv (.t 0))) (.c (.e (some 6) [] (.call false 146 [(.t 5)])) (.c (.q 7 [] (.mv (.t 6))) (.c (.q 8 [(7, true)] (.mv (.t 1))) (.c (.e (some 9) [(7, true)] (.call false 146 [(.t 8)])) (.c (.q 10 [] (.pick (.t 7) (.t 9) (.c (.bool false)))) (.c (.q 11 [] (.mv (.t 10))) (.c (.q 12 [(11, true)] (.mv (.t 0))) (.c (.q 13 [(11, true)] (.len (.t 12))) (.c (.q 14 [(11, true)] (.mv (.t 1))) (.c (.q 15 [(11, true)] (.len (.t 14))) (.c (.q 16 [(11, true)] (.bin .eql (.t 13) (.t 15))) (.c (.q 17 [] (.pick (.t 11) (.t 16) (.c (.bool false)))) (.c (.q 4 [] (.mv (.t 17))) .nil))))))))))))))) .ret) k e w := rfl
def x_sl1Two : X := (.seq (.reg [0, 1] (.c (.q 4 [] (.mv (.c (.bool false)))) .nil)) t_sl1Two_1)
theorem u_sl1Two (P : Program) (k : KT) (e : Env) (w : World) : vcK P x_sl1Two k e w = vcK P (.seq (.reg [0, 1] (.c (.q 4 [] (.mv (.c (.bool false)))) .nil)) t_sl1Two_1) k e w := rfl
def r_sl1Two : List XO := [(.mv (.t 4))]
theorem c_sl1Two : convF Try.prog [145, 147, 148, 149, 158, 205, 206, 232, 234, 247, 248, 256, 261, 283, 284, 299, 300, 307] Try.f244 [([0, 1], []), ([4], [])] = some (x_sl1Two, r_sl1Two) := by kernel_rfl
def us_sl1Two := And.intro @u_sl1Two @u_sl1Two_1
def t_iturned_1 : X := (.reg [0, 3, 9, 10] (.c (.q 13 [] (.mv (.t 3))) (.c (.q 14 [] (.mv (.t 0))) (.c (.q 15 [] (.mv (.t 4))) (.c (.q 16 [] (.idx (.t 14) (.t 15))) (.c (.q 17 [] (.bin .sub (.t 16) (.c (.int .u8 49)))) (.c (.q 18 [] (.mv (.t 4))) (.c (.q 19 [] (.bin .add (.c (.int .i64 49)) (.t 18))) (.c (.q 20 [] (.cvi .u8 (.t 19))) (.c (.q 21 [] (.ia 1 (.t 13) (.t 17))) (.c (.e none [] (.st 1 (.t 21) (.t 20))) .nil)))))))))))
theorem u_iturned_1 (P : Program) (k : KT) (e : Env) (w : World) : vcK P t_iturned_1 k e w = vcK P (.reg [0, 3, 9, 10] (.c (.q 13 [] (.mv (.t 3))) (.c (.q 14 [] (.mv (.t 0))) (.c (.q 15 [] (.mv (.t 4))) (.c (.q 16 [] (.idx (.t 14) (.t 15))) (.c (.q 17 [] (.bin .sub (.t 16) (.c (.int .u8 49)))) (.c (.q 18 [] (.mv (.t 4))) (.c (.q 19 [] (.bin .add (.c (.int .i64 49)) (.t 18))) (.c (.q 20 [] (.cvi .u8 (.t 19))) (.c (.q 21 [] (.ia 1 (.t 13) (.t 17))) (.c (.e none [] (.st 1 (.t 21) (.t 20))) .nil))))))))))) k e w := rfl
def t_iturned_2 : X := (.reg [0, 3, 9, 10] (.c (.q 22 [] (.bin .add (.t 10) (.c (.int .i64 1)))) (.c (.q 10 [] (.mv (.t 22))) .nil)))
theorem u_iturned_2 (P : Program) (k : KT) (e : Env) (w : World) : vcK P t_iturned_2 k e w = vcK P (.reg [0, 3, 9, 10] (.c (.q 22 [] (.bin .add (.t 10) (.c (.int .i64 1)))) (.c (.q 10 [] (.mv (.t 22))) .nil))) k e w := rfl
def t_iturned_3 : X := (.seq (.blk 1 (.seq (.reg [0, 3, 4, 9, 10] (.c (.q 12 [] (.mv (.t 10))) (.c (.q 4 [] (.mv (.t 12))) .nil))) t_iturned_1)) t_iturned_2)
theorem u_iturned_3 (P : Program) (k : KT) (e : Env) (w : World) : vcK P t_iturned_3 k e w = vcK P (.seq (.blk 1 (.seq (.reg [0, 3, 4, 9, 10] (.c (.q 12 [] (.mv (.t 10))) (.c (.q 4 [] (.mv (.t 12))) .nil))) t_iturned_1)) t_iturned_2) k e w := rfl
def t_iturned_4 : X := (.seq (.cond (.t 11) .skip (.exit 0)) t_iturned_3)
theorem u_iturned_4 (P : Program) (k : KT) (e : Env) (w : World) : vcK P t_iturned_4 k e w = vcK P (.seq (.cond (.t 11) .skip (.exit 0)) t_iturned_3) k e w := rfl
def t_iturned_5 : X := (.seq (.reg [0, 3, 9, 10, 11] (.c (.q 11 [] (.bin .lss (.t 10) (.t 9))) .nil)) t_iturned_4)
theorem u_iturned_5 (P : Program) (k : KT) (e : Env) (w : World) : vcK P t_iturned_5 k e w = vcK P (.seq (.reg [0, 3, 9, 10, 11] (.c (.q 11 [] (.bin .lss (.t 10) (.t 9))) .nil)) t_iturned_4) k e w := rfl
def t_iturned_6 : X := (.blk 0 (.loop [10] [0, 3, 9] t_iturned_5))
theorem u_iturned_6 (P : Program) (k : KT) (e : Env) (w : World) : vcK P t_iturned_6 k e w = vcK P (.blk 0 (.loop [10] [0, 3, 9] t_iturned_5)) k e w := rfl
def t_iturned_7 : X := (.seq (.reg [2] (.c (.q 23 [] (.mv (.t 3))) (.c (.e (some 24) [] (.b2s (.t 23))) (.c (.q 2 [] (.mv (.t 24))) .nil)))) .ret)
theorem u_iturned_7 (P : Program) (k : KT) (e : Env) (w : World) : vcK P t_iturned_7 k e w = vcK P (.seq (.reg [2] (.c (.q 23 [] (.mv (.t 3))) (.c (.e (some 24) [] (.b2s (.t 23))) (.c (.q 2 [] (.mv (.t 24))) .nil)))) .ret) k e w := rfl
def t_iturned_8 : X := (.seq (.seq (.reg [0, 3, 9, 10] (.c (.q 8 [] (.mv (.t 3))) (.c (.q 9 [] (.lens (.t 8))) (.c (.q 10 [] (.mv (.c (.int .i64 0)))) .nil)))) t_iturned_6) t_iturned_7)
theorem u_iturned_8 (P : Program) (k : KT) (e : Env) (w : World) : vcK P t_iturned_8 k e w = vcK P (.seq (.seq (.reg [0, 3, 9, 10] (.c (.q 8 [] (.mv (.t 3))) (.c (.q 9 [] (.lens (.t 8))) (.c (.q 10 [] (.mv (.c (.int .i64 0)))) .nil)))) t_iturned_6) t_iturned_7) k e w := rfl
def t_iturned_9 : X := (.seq (.reg [0, 3] (.c (.q 5 [] (.mv (.t 0))) (.c (.q 6 [] (.len (.t 5))) (.c (.e (some 7) [] (.msl 22 5 1 1 [(.int .u8 0)] (.t 6) (.t 6))) (.c (.q 3 [] (.mv (.t 7))) .nil))))) t_iturned_8)
theorem u_iturned_9 (P : Program) (k : KT) (e : Env) (w : World) : vcK P t_iturned_9 k e w = vcK P (.seq (.reg [0, 3] (.c (.q 5 [] (.mv (.t 0))) (.c (.q 6 [] (.len (.t 5))) (.c (.e (some 7) [] (.msl 22 5 1 1 [(.int .u8 0)] (.t 6) (.t 6))) (.c (.q 3 [] (.mv (.t 7))) .nil))))) t_iturned_8) k e w := rfl
def x_iturned : X := (.seq (.reg [0] (.c (.q 2 [] (.mv (.s []))) .nil)) t_iturned_9)
theorem u_iturned (P : Program) (k : KT) (e : Env) (w : World) : vcK P x_iturned k e w = vcK P (.seq (.reg [0] (.c (.q 2 [] (.mv (.s []))) .nil)) t_iturned_9) k e w := rfl
def r_iturned : List XO := [(.mv (.t 2))]
theorem c_iturned : convF Try.prog [145, 147, 148, 149, 158, 205, 206, 232, 234, 247, 248, 256, 261, 283, 284, 299, 300, 307] Try.f212 [([0], []), ([0, 3], []), ([0, 3, 9, 10], []), ([10], [0, 3, 9]), ([0, 3, 9, 10, 11], []), ([0, 3, 4, 9, 10], []), ([0, 3, 9, 10], []), ([0, 3, 9, 10], []), ([2], [])] = some (x_iturned, r_iturned) := by kernel_rfl
def us_iturned := And.intro @u_iturned (And.intro @u_iturned_1 (And.intro @u_iturned_2 (And.intro @u_iturned_3 (And.intro @u_iturned_4 (And.intro @u_iturned_5 (And.intro @u_iturned_6 (And.intro @u_iturned_7 (And.intro @u_iturned_8 @u_iturned_9))))))))
def t_iTurnRow_1 : X := (.cond (.t 6) (.seq (.reg [2, 3] (.c (.q 2 [] (.mv (.s []))) (.c (.q 3 [] (.mv (.c (.bool false)))) .nil))) .ret) .skip)
theorem u_iTurnRow_1 (P : Program) (k : KT) (e : Env) (w : World) : vcK P t_iTurnRow_1 k e w = vcK P (.cond (.t 6) (.seq (.reg [2, 3] (.c (.q 2 [] (.mv (.s []))) (.c (.q 3 [] (.mv (.c (.bool false)))) .nil))) .ret) .skip) k e w := rfl
def t_iTurnRow_2 : X := (.seq (.reg [2, 3] (.c (.q 7 [] (.mv (.t 0))) (.c (.e (some 8) [] (.call false 212 [(.t 7)])) (.c (.q 2 [] (.mv (.t 8))) (.c (.q 3 [] (.mv (.c (.bool true)))) .nil))))) .ret)
theorem u_iTurnRow_2 (P : Program) (k : KT) (e : Env) (w : World) : vcK P t_iTurnRow_2 k e w = vcK P (.seq (.reg [2, 3] (.c (.q 7 [] (.mv (.t 0))) (.c (.e (some 8) [] (.call false 212 [(.t 7)])) (.c (.q 2 [] (.mv (.t 8))) (.c (.q 3 [] (.mv (.c (.bool true)))) .nil))))) .ret) k e w := rfl
def t_iTurnRow_3 : X := (.seq (.seq (.reg [0, 6] (.c (.q 4 [] (.mv (.t 0))) (.c (.e (some 5) [] (.call false 150 [(.t 4)])) (.c (.q 6 [] (.not (.t 5))) .nil)))) t_iTurnRow_1) t_iTurnRow_2)
theorem u_iTurnRow_3 (P : Program) (k : KT) (e : Env) (w : World) : vcK P t_iTurnRow_3 k e w = vcK P (.seq (.seq (.reg [0, 6] (.c (.q 4 [] (.mv (.t 0))) (.c (.e (some 5) [] (.call false 150 [(.t 4)])) (.c (.q 6 [] (.not (.t 5))) .nil)))) t_iTurnRow_1) t_iTurnRow_2) k e w := rfl
def x_iTurnRow : X := (.seq (.reg [0] (.c (.q 2 [] (.mv (.s []))) (.c (.q 3 [] (.mv (.c (.bool false)))) .nil))) t_iTurnRow_3)
theorem u_iTurnRow (P : Program) (k : KT) (e : Env) (w : World) : vcK P x_iTurnRow k e w = vcK P (.seq (.reg [0] (.c (.q 2 [] (.mv (.s []))) (.c (.q 3 [] (.mv (.c (.bool false)))) .nil))) t_iTurnRow_3) k e w := rfl
def r_iTurnRow : List XO := [(.mv (.t 2)), (.mv (.t 3))]
theorem c_iTurnRow : convF Try.prog [145, 147, 148, 149, 158, 205, 206, 232, 234, 247, 248, 256, 261, 283, 284, 299, 300, 307] Try.f71 [([0], []), ([0, 6], []), ([2, 3], []), ([2, 3], [])] = some (x_iTurnRow, r_iTurnRow) := by kernel_rfl
def us_iTurnRow := And.intro @u_iTurnRow (And.intro @u_iTurnRow_1 (And.intro @u_iTurnRow_2 @u_iTurnRow_3))
def t_iRoundsOf_1 : X := (.cond (.t 6) (.seq (.reg [2, 3] (.c (.q 2 [] (.mv (.s []))) (.c (.q 3 [] (.mv (.c (.bool false)))) .nil))) .ret) .skip)
theorem u_iRoundsOf_1 (P : Program) (k : KT) (e : Env) (w : World) : vcK P t_iRoundsOf_1 k e w = vcK P (.cond (.t 6) (.seq (.reg [2, 3] (.c (.q 2 [] (.mv (.s []))) (.c (.q 3 [] (.mv (.c (.bool false)))) .nil))) .ret) .skip) k e w := rfl
def t_iRoundsOf_2 : X := (.seq (.reg [2, 3] (.c (.q 7 [] (.mv (.t 0))) (.c (.e (some 8) [] (.call false 161 [(.t 7)])) (.c (.q 2 [] (.mv (.t 8))) (.c (.q 3 [] (.mv (.c (.bool true)))) .nil))))) .ret)
theorem u_iRoundsOf_2 (P : Program) (k : KT) (e : Env) (w : World) : vcK P t_iRoundsOf_2 k e w = vcK P (.seq (.reg [2, 3] (.c (.q 7 [] (.mv (.t 0))) (.c (.e (some 8) [] (.call false 161 [(.t 7)])) (.c (.q 2 [] (.mv (.t 8))) (.c (.q 3 [] (.mv (.c (.bool true)))) .nil))))) .ret) k e w := rfl
def t_iRoundsOf_3 : X := (.seq (.seq (.reg [0, 6] (.c (.q 4 [] (.mv (.t 0))) (.c (.e (some 5) [] (.call false 165 [(.t 4)])) (.c (.q 6 [] (.not (.t 5))) .nil)))) t_iRoundsOf_1) t_iRoundsOf_2)
theorem u_iRoundsOf_3 (P : Program) (k : KT) (e : Env) (w : World) : vcK P t_iRoundsOf_3 k e w = vcK P (.seq (.seq (.reg [0, 6] (.c (.q 4 [] (.mv (.t 0))) (.c (.e (some 5) [] (.call false 165 [(.t 4)])) (.c (.q 6 [] (.not (.t 5))) .nil)))) t_iRoundsOf_1) t_iRoundsOf_2) k e w := rfl
def x_iRoundsOf : X := (.seq (.reg [0] (.c (.q 2 [] (.mv (.s []))) (.c (.q 3 [] (.mv (.c (.bool false)))) .nil))) t_iRoundsOf_3)
theorem u_iRoundsOf (P : Program) (k : KT) (e : Env) (w : World) : vcK P x_iRoundsOf k e w = vcK P (.seq (.reg [0] (.c (.q 2 [] (.mv (.s []))) (.c (.q 3 [] (.mv (.c (.bool false)))) .nil))) t_iRoundsOf_3) k e w := rfl
def r_iRoundsOf : List XO := [(.mv (.t 2)), (.mv (.t 3))]
theorem c_iRoundsOf : convF Try.prog [145, 147, 148, 149, 158, 205, 206, 232, 234, 247, 248, 256, 261, 283, 284, 299, 300, 307] Try.f69 [([0], []), ([0, 6], []), ([2, 3], []), ([2, 3], [])] = some (x_iRoundsOf, r_iRoundsOf) := by kernel_rfl
def us_iRoundsOf := And.intro @u_iRoundsOf (And.intro @u_iRoundsOf_1 (And.intro @u_iRoundsOf_2 @u_iRoundsOf_3))
def t_sRoundsOf_1 : X := (.cond (.t 6) (.seq (.reg [2, 3] (.c (.q 2 [] (.mv (.s []))) (.c (.q 3 [] (.mv (.c (.bool false)))) .nil))) .ret) .skip)
theorem u_sRoundsOf_1 (P : Program) (k : KT) (e : Env) (w : World) : vcK P t_sRoundsOf_1 k e w = vcK P (.cond (.t 6) (.seq (.reg [2, 3] (.c (.q 2 [] (.mv (.s []))) (.c (.q 3 [] (.mv (.c (.bool false)))) .nil))) .ret) .skip) k e w := rfl
def t_sRoundsOf_2 : X := (.seq (.reg [2, 3] (.c (.q 7 [] (.mv (.t 0))) (.c (.e (some 8) [] (.call false 180 [(.t 7)])) (.c (.q 2 [] (.mv (.t 8))) (.c (.q 3 [] (.mv (.c (.bool true)))) .nil))))) .ret)
theorem u_sRoundsOf_2 (P : Program) (k : KT) (e : Env) (w : World) : vcK P t_sRoundsOf_2 k e w = vcK P (.seq (.reg [2, 3] (.c (.q 7 [] (.mv (.t 0))) (.c (.e (some 8) [] (.call false 180 [(.t 7)])) (.c (.q 2 [] (.mv (.t 8))) (.c (.q 3 [] (.mv (.c (.bool true)))) .nil))))) .ret) k e w := rfl
def t_sRoundsOf_3 : X := (.seq (.seq (.reg [0, 6] (.c (.q 4 [] (.mv (.t 0))) (.c (.e (some 5) [] (.call false 208 [(.t 4), (.c (.int .i64 3)), (.c (.int .i64 8))])) (.c (.q 6 [] (.not (.t 5))) .nil)))) t_sRoundsOf_1) t_sRoundsOf_2)
theorem u_sRoundsOf_3 (P : Program) (k : KT) (e : Env) (w : World) : vcK P t_sRoundsOf_3 k e w = vcK P (.seq (.seq (.reg [0, 6] (.c (.q 4 [] (.mv (.t 0))) (.c (.e (some 5) [] (.call false 208 [(.t 4), (.c (.int .i64 3)), (.c (.int .i64 8))])) (.c (.q 6 [] (.not (.t 5))) .nil)))) t_sRoundsOf_1) t_sRoundsOf_2) k e w := rfl
def x_sRoundsOf : X := (.seq (.reg [0] (.c (.q 2 [] (.mv (.s []))) (.c (.q 3 [] (.mv (.c (.bool false)))) .nil))) t_sRoundsOf_3)
theorem u_sRoundsOf (P : Program) (k : KT) (e : Env) (w : World) : vcK P x_sRoundsOf k e w = vcK P (.seq (.reg [0] (.c (.q 2 [] (.mv (.s []))) (.c (.q 3 [] (.mv (.c (.bool false)))) .nil))) t_sRoundsOf_3) k e w := rfl
def r_sRoundsOf : List XO := [(.mv (.t 2)), (.mv (.t 3))]
theorem c_sRoundsOf : convF Try.prog [145, 147, 148, 149, 158, 205, 206, 232, 234, 247, 248, 256, 261, 283, 284, 299, 300, 307] Try.f108 [([0], []), ([0, 6], []), ([2, 3], []), ([2, 3], [])] = some (x_sRoundsOf, r_sRoundsOf) := by kernel_rfl
def us_sRoundsOf := And.intro @u_sRoundsOf (And.intro @u_sRoundsOf_1 (And.intro @u_sRoundsOf_2 @u_sRoundsOf_3))
def t_lbig_1 : X := (.seq (.reg [4] (.c (.q 5 [] (.mv (.t 0))) (.c (.q 6 [] (.lens (.t 5))) (.c (.q 7 [] (.bin .gtr (.t 6) (.c (.int .i64 1048576)))) (.c (.q 8 [] (.mv (.t 7))) (.c (.q 9 [(8, false)] (.mv (.t 1))) (.c (.q 10 [(8, false)] (.lens (.t 9))) (.c (.q 11 [(8, false)] (.mv (.t 0))) (.c (.q 12 [(8, false)] (.lens (.t 11))) (.c (.q 13 [(8, false)] (.bin .sub (.c (.int .i64 1048576)) (.t 12))) (.c (.q 14 [(8, false)] (.bin .gtr (.t 10) (.t 13))) (.c (.q 15 [] (.pick (.t 8) (.c (.bool true)) (.t 14))) (.c (.q 4 [] (.mv (.t 15))) .nil))))))))))))) .ret)
theorem u_lbig_1 (P : Program) (k : KT) (e : Env) (w : World) : vcK P t_lbig_1 k e w = vcK P (.seq (.reg [4] (.c (.q 5 [] (.mv (.t 0))) (.c (.q 6 [] (.lens (.t 5))) (.c (.q 7 [] (.bin .gtr (.t 6) (.c (.int .i64 1048576)))) (.c (.q 8 [] (.mv (.t 7))) (.c (.q 9 [(8, false)] (.mv (.t 1))) (.c (.q 10 [(8, false)] (.lens (.t 9))) (.c (.q 11 [(8, false)] (.mv (.t 0))) (.c (.q 12 [(8, false)] (.lens (.t 11))) (.c (.q 13 [(8, false)] (.bin .sub (.c (.int .i64 1048576)) (.t 12))) (.c (.q 14 [(8, false)] (.bin .gtr (.t 10) (.t 13))) (.c (.q 15 [] (.pick (.t 8) (.c (.bool true)) (.t 14))) (.c (.q 4 [] (.mv (.t 15))) .nil))))))))))))) .ret) k e w := rfl
def x_lbig : X := (.seq (.reg [0, 1] (.c (.q 4 [] (.mv (.c (.bool false)))) .nil)) t_lbig_1)
theorem u_lbig (P : Program) (k : KT) (e : Env) (w : World) : vcK P x_lbig k e w = vcK P (.seq (.reg [0, 1] (.c (.q 4 [] (.mv (.c (.bool false)))) .nil)) t_lbig_1) k e w := rfl
def r_lbig : List XO := [(.mv (.t 4))]
theorem c_lbig : convF Try.prog [145, 147, 148, 149, 158, 205, 206, 232, 234, 247, 248, 256, 261, 283, 284, 299, 300, 307] Try.f15 [([0, 1], []), ([4], [])] = some (x_lbig, r_lbig) := by kernel_rfl
def us_lbig := And.intro @u_lbig @u_lbig_1

def timesV (a b : List UInt8) : Value := if IsRow a ∧ IsRow b ∧ a.length = b.length then .tuple ⟨[S (timesL a b), .bool true]⟩ else .tuple ⟨[S [], .bool false]⟩
def turnRV (a : List UInt8) : Value := if IsRow a then .tuple ⟨[S (turnL a), .bool true]⟩ else .tuple ⟨[S [], .bool false]⟩
def roundsV (n : Int) : Value := if 3 ≤ n ∧ n ≤ 8 then .tuple ⟨[S (roundsL n.toNat), .bool true]⟩ else .tuple ⟨[S [], .bool false]⟩
/-- A power, of the inverse where the exponent is below 0. -/
def powZ (a : List UInt8) (k : Int) : List UInt8 := if k < 0 then powL (turnL a) (-k).toNat else powL a k.toNat
def powV (a : List UInt8) (k : Int) : Value := if IsRow a ∧ -1000 ≤ k ∧ k ≤ 1000 then .tuple ⟨[S (powZ a k), .bool true]⟩ else .tuple ⟨[S [], .bool false]⟩
theorem iTimes_ok (a b : List UInt8) (w : World) : Fn 72 [S a, S b] w (fun r _ => r = timesV a b) := by
  (refine callsV_of mix Try.func72 c_iTimes ?_; simp only [↓vsd, vsn, gW, qd, qv, ev, pick, argE, List.map_cons, List.map_nil, Option.map_some, Option.map_none, zipE, List.cons_append, List.nil_append, ne_eq, eq_self, forall_const, implies_true, if_true, if_false, reduceIte, List.cons.injEq, reduceCtorEq, Nat.reduceEqDiff, List.length_nil, List.length_cons, Nat.reduceAdd, Nat.reduceLT, List.set_cons_zero, List.set_cons_succ, ↓us_iTimes, r_iTimes])
  refine m_call (iGoodRow_ok _ _) ?_
  rintro _ w1 hx1 rfl
  simp only [↓vsd, vsn, gW, qd, qv, ev, pick, argE, List.map_cons, List.map_nil, Option.map_some, Option.map_none, zipE, List.cons_append, List.nil_append, ne_eq, eq_self, forall_const, implies_true, if_true, if_false, reduceIte, List.cons.injEq, reduceCtorEq, Nat.reduceEqDiff, List.length_nil, List.length_cons, Nat.reduceAdd, Nat.reduceLT, List.set_cons_zero, List.set_cons_succ, ↓us_iTimes, r_iTimes]
  refine ⟨fun ha => m_call (iisRowOf_ok _ _ _) ?_, fun ha => ⟨hx1, by rw [timesV, if_neg (fun h => ha h.1)]⟩⟩
  rintro _ w2 hx2 rfl
  simp only [↓vsd, vsn, gW, qd, qv, ev, pick, argE, List.map_cons, List.map_nil, Option.map_some, Option.map_none, zipE, List.cons_append, List.nil_append, ne_eq, eq_self, forall_const, implies_true, if_true, if_false, reduceIte, List.cons.injEq, reduceCtorEq, Nat.reduceEqDiff, List.length_nil, List.length_cons, Nat.reduceAdd, Nat.reduceLT, List.set_cons_zero, List.set_cons_succ, ↓us_iTimes, r_iTimes]
  refine ⟨fun hb => ⟨hx1.trans hx2, ?_⟩, fun hb => m_call (itimes_ok a b hb.2.2 (by omega) _) ?_⟩
  · rw [timesV, if_neg]
    rintro ⟨h1, h2, h3⟩
    rcases hb with h | h | h
    · exact h h1
    · omega
    · exact h h2
  · rintro _ w3 hx3 rfl
    simp only [↓vsd, vsn, gW, qd, qv, ev, pick, argE, List.map_cons, List.map_nil, Option.map_some, Option.map_none, zipE, List.cons_append, List.nil_append, ne_eq, eq_self, forall_const, implies_true, if_true, if_false, reduceIte, List.cons.injEq, reduceCtorEq, Nat.reduceEqDiff, List.length_nil, List.length_cons, Nat.reduceAdd, Nat.reduceLT, List.set_cons_zero, List.set_cons_succ, ↓us_iTimes, r_iTimes]
    exact ⟨(hx1.trans hx2).trans hx3, by rw [timesV, if_pos ⟨hb.1, hb.2.2, by omega⟩]⟩
theorem sl1Two_ok (a b : List UInt8) (w : World) : Fn 244 [S a, S b] w (fun r _ => r = .bool (decide (IsRow a ∧ IsRow b ∧ a.length = b.length))) := by
  (refine callsV_of mix Try.func244 c_sl1Two ?_; simp only [↓vsd, vsn, gW, qd, qv, ev, pick, argE, List.map_cons, List.map_nil, Option.map_some, Option.map_none, zipE, List.cons_append, List.nil_append, ne_eq, eq_self, forall_const, implies_true, if_true, if_false, reduceIte, List.cons.injEq, reduceCtorEq, Nat.reduceEqDiff, List.length_nil, List.length_cons, Nat.reduceAdd, Nat.reduceLT, List.set_cons_zero, List.set_cons_succ, ↓us_sl1Two, r_sl1Two])
  refine m_call (sl1Row_ok _ _) ?_
  rintro _ w1 hx1 rfl
  simp only [↓vsd, vsn, gW, qd, qv, ev, pick, argE, List.map_cons, List.map_nil, Option.map_some, Option.map_none, zipE, List.cons_append, List.nil_append, ne_eq, eq_self, forall_const, implies_true, if_true, if_false, reduceIte, List.cons.injEq, reduceCtorEq, Nat.reduceEqDiff, List.length_nil, List.length_cons, Nat.reduceAdd, Nat.reduceLT, List.set_cons_zero, List.set_cons_succ, ↓us_sl1Two, r_sl1Two]
  refine ⟨fun ha => m_call (sl1Row_ok _ _) ?_, fun ha => ⟨hx1, by simp [ha]⟩⟩
  rintro _ w2 hx2 rfl
  simp only [↓vsd, vsn, gW, qd, qv, ev, pick, argE, List.map_cons, List.map_nil, Option.map_some, Option.map_none, zipE, List.cons_append, List.nil_append, ne_eq, eq_self, forall_const, implies_true, if_true, if_false, reduceIte, List.cons.injEq, reduceCtorEq, Nat.reduceEqDiff, List.length_nil, List.length_cons, Nat.reduceAdd, Nat.reduceLT, List.set_cons_zero, List.set_cons_succ, ↓us_sl1Two, r_sl1Two]
  refine ⟨hx1.trans hx2, ?_⟩
  simp only [← Bool.decide_and]
  congr 1
  exact propext ⟨fun h => ⟨ha, h.1.2, by omega⟩, fun h => ⟨⟨ha, h.2.1⟩, by have := h.2.2; omega⟩⟩
theorem sTimes_ok (a b : List UInt8) (w : World) : Fn 110 [S a, S b] w (fun r _ => r = timesV a b) := by
  (refine callsV_of mix Try.func110 c_sTimes ?_; simp only [↓vsd, vsn, gW, qd, qv, ev, pick, argE, List.map_cons, List.map_nil, Option.map_some, Option.map_none, zipE, List.cons_append, List.nil_append, ne_eq, eq_self, forall_const, implies_true, if_true, if_false, reduceIte, List.cons.injEq, reduceCtorEq, Nat.reduceEqDiff, List.length_nil, List.length_cons, Nat.reduceAdd, Nat.reduceLT, List.set_cons_zero, List.set_cons_succ, ↓us_sTimes, r_sTimes])
  refine m_call (sl1Two_ok _ _ _) ?_
  rintro _ w1 hx1 rfl
  simp only [↓vsd, vsn, gW, qd, qv, ev, pick, argE, List.map_cons, List.map_nil, Option.map_some, Option.map_none, zipE, List.cons_append, List.nil_append, ne_eq, eq_self, forall_const, implies_true, if_true, if_false, reduceIte, List.cons.injEq, reduceCtorEq, Nat.reduceEqDiff, List.length_nil, List.length_cons, Nat.reduceAdd, Nat.reduceLT, List.set_cons_zero, List.set_cons_succ, ↓us_sTimes, r_sTimes]
  refine ⟨fun hn => ⟨hx1, by rw [timesV, if_neg hn]⟩, fun hy => m_call (sl1Times_ok a b hy.2.1 hy.2.2 _) ?_⟩
  rintro _ w2 hx2 rfl
  simp only [↓vsd, vsn, gW, qd, qv, ev, pick, argE, List.map_cons, List.map_nil, Option.map_some, Option.map_none, zipE, List.cons_append, List.nil_append, ne_eq, eq_self, forall_const, implies_true, if_true, if_false, reduceIte, List.cons.injEq, reduceCtorEq, Nat.reduceEqDiff, List.length_nil, List.length_cons, Nat.reduceAdd, Nat.reduceLT, List.set_cons_zero, List.set_cons_succ, ↓us_sTimes, r_sTimes]
  exact ⟨hx1.trans hx2, by rw [timesV, if_pos hy]⟩
theorem iturned_ok (a : List UInt8) (ha : IsRow a) (w : World) : Fn 212 [S a] w (fun r _ => r = S (turnL a)) := by
  (refine callsV_of mix Try.func212 c_iturned ?_; simp only [↓vsd, vsn, gW, qd, qv, ev, pick, argE, List.map_cons, List.map_nil, Option.map_some, Option.map_none, zipE, List.cons_append, List.nil_append, ne_eq, eq_self, forall_const, implies_true, if_true, if_false, reduceIte, List.cons.injEq, reduceCtorEq, Nat.reduceEqDiff, List.length_nil, List.length_cons, Nat.reduceAdd, Nat.reduceLT, List.set_cons_zero, List.set_cons_succ, ↓us_iturned, r_iturned])
  have h8 := ha.1
  refine m_msl (f := fU) (B := w.heap.size) (0 : UInt8) fU_len rfl (by omega) (by decide) (Nat.le_refl _) ?_
  rintro vo w1 ho1 _ hx1
  simp only [↓vsd, vsn, gW, qd, qv, ev, pick, argE, List.map_cons, List.map_nil, Option.map_some, Option.map_none, zipE, List.cons_append, List.nil_append, ne_eq, eq_self, forall_const, implies_true, if_true, if_false, reduceIte, List.cons.injEq, reduceCtorEq, Nat.reduceEqDiff, List.length_nil, List.length_cons, Nat.reduceAdd, Nat.reduceLT, List.set_cons_zero, List.set_cons_succ, ↓us_iturned, r_iturned, ho1.sq.facts]
  rw [List.length_replicate]
  refine m_upto a.length (fun k vs w' => ∃ l : List UInt8, vs = [.int .i64 k] ∧ l.length = a.length ∧ (∀ j < k, l.getD (bell a j) 0 = UInt8.ofNat (49 + j)) ∧ Own fU 1 5 w.heap.size w' vo l ∧ Ext w w') ⟨_, rfl, List.length_replicate, fun j hj => absurd hj (Nat.not_lt_zero j), ho1, hx1⟩ ?_
  rintro k vs w2 hk ⟨l, rfl, hl, hget, ho, hx⟩
  by_cases hlt : k < a.length
  · have hltI : (k : Int) < a.length := by omega
    have hltJ : ¬ (a.length : Int) ≤ k := by omega
    have hlow := ha.low hlt
    have hhigh := ha.high hlt
    have hbe : ((a.getD k 0).toNat : Int) - 49 = (bell a k : Nat) := by unfold bell; omega
    have hbl := ha.bell_lt hlt
    simp only [↓vsd, vsn, gW, qd, qv, ev, pick, argE, List.map_cons, List.map_nil, Option.map_some, Option.map_none, zipE, List.cons_append, List.nil_append, ne_eq, eq_self, forall_const, implies_true, if_true, if_false, reduceIte, List.cons.injEq, reduceCtorEq, Nat.reduceEqDiff, List.length_nil, List.length_cons, Nat.reduceAdd, Nat.reduceLT, List.set_cons_zero, List.set_cons_succ, ↓us_iturned, r_iturned, hltI, hltJ, ho.sq.facts, hl, hbe]
    refine ⟨by omega, inR_u8 (by omega), inR_i64 (by omega), inR_u8 (by omega), by omega, m_set1 (bell a k) (UInt8.ofNat (49 + k)) ho rfl (by omega) (by simp [fU, UInt8.toNat_ofNat', cells_int]; omega) fU_one ?_⟩
    rintro w4 ho4 hg4 hs4
    simp only [↓vsd, vsn, gW, qd, qv, ev, pick, argE, List.map_cons, List.map_nil, Option.map_some, Option.map_none, zipE, List.cons_append, List.nil_append, ne_eq, eq_self, forall_const, implies_true, if_true, if_false, reduceIte, List.cons.injEq, reduceCtorEq, Nat.reduceEqDiff, List.length_nil, List.length_cons, Nat.reduceAdd, Nat.reduceLT, List.set_cons_zero, List.set_cons_succ, ↓us_iturned, r_iturned]
    refine ⟨inR_i64 (by omega), UpTo.next hlt ⟨_, rfl, by rw [List.length_set]; exact hl, fun j hj => ?_, ho4, ho.grown (hx) (Nat.le_refl _) hg4⟩⟩
    rw [getD_set]
    by_cases hjk : j = k
    · subst hjk
      rw [if_pos ⟨rfl, by omega⟩]
    · rw [if_neg (fun h => hjk (ha.inj' (by omega) hlt h.1.symm))]
      exact hget j (by omega)
  · obtain rfl : k = a.length := by omega
    have hltI : ¬ (a.length : Int) < a.length := by omega
    simp only [↓vsd, vsn, gW, qd, qv, ev, pick, argE, List.map_cons, List.map_nil, Option.map_some, Option.map_none, zipE, List.cons_append, List.nil_append, ne_eq, eq_self, forall_const, implies_true, if_true, if_false, reduceIte, List.cons.injEq, reduceCtorEq, Nat.reduceEqDiff, List.length_nil, List.length_cons, Nat.reduceAdd, Nat.reduceLT, List.set_cons_zero, List.set_cons_succ, ↓us_iturned, r_iturned, hltI]
    refine m_b2s ho.sq ?_
    simp only [↓vsd, vsn, gW, qd, qv, ev, pick, argE, List.map_cons, List.map_nil, Option.map_some, Option.map_none, zipE, List.cons_append, List.nil_append, ne_eq, eq_self, forall_const, implies_true, if_true, if_false, reduceIte, List.cons.injEq, reduceCtorEq, Nat.reduceEqDiff, List.length_nil, List.length_cons, Nat.reduceAdd, Nat.reduceLT, List.set_cons_zero, List.set_cons_succ, ↓us_iturned, r_iturned]
    exact ⟨hx, by rw [turn_unique ha hl hget]⟩
theorem iTurnRow_ok (a : List UInt8) (w : World) : Fn 71 [S a] w (fun r _ => r = turnRV a) := by
  (refine callsV_of mix Try.func71 c_iTurnRow ?_; simp only [↓vsd, vsn, gW, qd, qv, ev, pick, argE, List.map_cons, List.map_nil, Option.map_some, Option.map_none, zipE, List.cons_append, List.nil_append, ne_eq, eq_self, forall_const, implies_true, if_true, if_false, reduceIte, List.cons.injEq, reduceCtorEq, Nat.reduceEqDiff, List.length_nil, List.length_cons, Nat.reduceAdd, Nat.reduceLT, List.set_cons_zero, List.set_cons_succ, ↓us_iTurnRow, r_iTurnRow])
  refine m_call (iGoodRow_ok _ _) ?_
  rintro _ w1 hx1 rfl
  simp only [↓vsd, vsn, gW, qd, qv, ev, pick, argE, List.map_cons, List.map_nil, Option.map_some, Option.map_none, zipE, List.cons_append, List.nil_append, ne_eq, eq_self, forall_const, implies_true, if_true, if_false, reduceIte, List.cons.injEq, reduceCtorEq, Nat.reduceEqDiff, List.length_nil, List.length_cons, Nat.reduceAdd, Nat.reduceLT, List.set_cons_zero, List.set_cons_succ, ↓us_iTurnRow, r_iTurnRow]
  refine ⟨fun h => ⟨hx1, by rw [turnRV, if_neg h]⟩, fun h => m_call (iturned_ok a h _) ?_⟩
  rintro _ w2 hx2 rfl
  simp only [↓vsd, vsn, gW, qd, qv, ev, pick, argE, List.map_cons, List.map_nil, Option.map_some, Option.map_none, zipE, List.cons_append, List.nil_append, ne_eq, eq_self, forall_const, implies_true, if_true, if_false, reduceIte, List.cons.injEq, reduceCtorEq, Nat.reduceEqDiff, List.length_nil, List.length_cons, Nat.reduceAdd, Nat.reduceLT, List.set_cons_zero, List.set_cons_succ, ↓us_iTurnRow, r_iTurnRow]
  exact ⟨hx1.trans hx2, by rw [turnRV, if_pos h]⟩
theorem iRoundsOf_ok (n : Int) (w : World) : Fn 69 [.int .i64 n] w (fun r _ => r = roundsV n) := by
  (refine callsV_of mix Try.func69 c_iRoundsOf ?_; simp only [↓vsd, vsn, gW, qd, qv, ev, pick, argE, List.map_cons, List.map_nil, Option.map_some, Option.map_none, zipE, List.cons_append, List.nil_append, ne_eq, eq_self, forall_const, implies_true, if_true, if_false, reduceIte, List.cons.injEq, reduceCtorEq, Nat.reduceEqDiff, List.length_nil, List.length_cons, Nat.reduceAdd, Nat.reduceLT, List.set_cons_zero, List.set_cons_succ, ↓us_iRoundsOf, r_iRoundsOf])
  refine m_call (iisStage_ok _ _) ?_
  rintro _ w1 hx1 rfl
  simp only [↓vsd, vsn, gW, qd, qv, ev, pick, argE, List.map_cons, List.map_nil, Option.map_some, Option.map_none, zipE, List.cons_append, List.nil_append, ne_eq, eq_self, forall_const, implies_true, if_true, if_false, reduceIte, List.cons.injEq, reduceCtorEq, Nat.reduceEqDiff, List.length_nil, List.length_cons, Nat.reduceAdd, Nat.reduceLT, List.set_cons_zero, List.set_cons_succ, ↓us_iRoundsOf, r_iRoundsOf]
  refine ⟨fun hn => ⟨hx1, by rw [roundsV, if_neg (by omega)]⟩, fun hy => ?_⟩
  obtain ⟨n, rfl⟩ : ∃ k : Nat, n = k := ⟨n.toNat, by omega⟩
  refine m_call (irounds_ok n (by omega) _) ?_
  rintro _ w2 hx2 rfl
  simp only [↓vsd, vsn, gW, qd, qv, ev, pick, argE, List.map_cons, List.map_nil, Option.map_some, Option.map_none, zipE, List.cons_append, List.nil_append, ne_eq, eq_self, forall_const, implies_true, if_true, if_false, reduceIte, List.cons.injEq, reduceCtorEq, Nat.reduceEqDiff, List.length_nil, List.length_cons, Nat.reduceAdd, Nat.reduceLT, List.set_cons_zero, List.set_cons_succ, ↓us_iRoundsOf, r_iRoundsOf]
  exact ⟨hx1.trans hx2, by rw [roundsV, if_pos hy]; rfl⟩
theorem sRoundsOf_ok (n : Int) (w : World) : Fn 108 [.int .i64 n] w (fun r _ => r = roundsV n) := by
  (refine callsV_of mix Try.func108 c_sRoundsOf ?_; simp only [↓vsd, vsn, gW, qd, qv, ev, pick, argE, List.map_cons, List.map_nil, Option.map_some, Option.map_none, zipE, List.cons_append, List.nil_append, ne_eq, eq_self, forall_const, implies_true, if_true, if_false, reduceIte, List.cons.injEq, reduceCtorEq, Nat.reduceEqDiff, List.length_nil, List.length_cons, Nat.reduceAdd, Nat.reduceLT, List.set_cons_zero, List.set_cons_succ, ↓us_sRoundsOf, r_sRoundsOf])
  refine m_call (sl1In_ok _ _ _ _) ?_
  rintro _ w1 hx1 rfl
  simp only [↓vsd, vsn, gW, qd, qv, ev, pick, argE, List.map_cons, List.map_nil, Option.map_some, Option.map_none, zipE, List.cons_append, List.nil_append, ne_eq, eq_self, forall_const, implies_true, if_true, if_false, reduceIte, List.cons.injEq, reduceCtorEq, Nat.reduceEqDiff, List.length_nil, List.length_cons, Nat.reduceAdd, Nat.reduceLT, List.set_cons_zero, List.set_cons_succ, ↓us_sRoundsOf, r_sRoundsOf]
  refine ⟨fun hn => ⟨hx1, by rw [roundsV, if_neg (by omega)]⟩, fun hy => ?_⟩
  obtain ⟨n, rfl⟩ : ∃ k : Nat, n = k := ⟨n.toNat, by omega⟩
  refine m_call (sl1Rounds_ok n (by omega) _) ?_
  rintro _ w2 hx2 rfl
  simp only [↓vsd, vsn, gW, qd, qv, ev, pick, argE, List.map_cons, List.map_nil, Option.map_some, Option.map_none, zipE, List.cons_append, List.nil_append, ne_eq, eq_self, forall_const, implies_true, if_true, if_false, reduceIte, List.cons.injEq, reduceCtorEq, Nat.reduceEqDiff, List.length_nil, List.length_cons, Nat.reduceAdd, Nat.reduceLT, List.set_cons_zero, List.set_cons_succ, ↓us_sRoundsOf, r_sRoundsOf]
  exact ⟨hx1.trans hx2, by rw [roundsV, if_pos hy]; rfl⟩
theorem lbig_ok (v u : Value) (a b : List UInt8) (ha : a.length ≤ 9223372036854775807) (hb : b.length ≤ 9223372036854775807) (w : World) (h : Sq fU 1 w v a) (h' : Sq fU 1 w u b) : Fn 15 [v, u] w (fun r _ => r = .bool (decide (1048576 < a.length + b.length))) := by
  (refine callsV_of mix Try.func15 c_lbig ?_; simp only [↓vsd, vsn, gW, qd, qv, ev, pick, argE, List.map_cons, List.map_nil, Option.map_some, Option.map_none, zipE, List.cons_append, List.nil_append, ne_eq, eq_self, forall_const, implies_true, if_true, if_false, reduceIte, List.cons.injEq, reduceCtorEq, Nat.reduceEqDiff, List.length_nil, List.length_cons, Nat.reduceAdd, Nat.reduceLT, List.set_cons_zero, List.set_cons_succ, ↓us_lbig, r_lbig])
  simp only [↓vsd, vsn, gW, qd, qv, ev, pick, argE, List.map_cons, List.map_nil, Option.map_some, Option.map_none, zipE, List.cons_append, List.nil_append, ne_eq, eq_self, forall_const, implies_true, if_true, if_false, reduceIte, List.cons.injEq, reduceCtorEq, Nat.reduceEqDiff, List.length_nil, List.length_cons, Nat.reduceAdd, Nat.reduceLT, List.set_cons_zero, List.set_cons_succ, ↓us_lbig, r_lbig, h.facts, h'.facts]
  refine ⟨fun _ => inR_i64 (by omega), Ext.refl _, ?_⟩
  rw [← Bool.decide_or]
  congr 1
  exact propext ⟨fun h => by omega, fun h => by omega⟩
end Go.Proofs.Ytjcnmobdlkmaeaa
