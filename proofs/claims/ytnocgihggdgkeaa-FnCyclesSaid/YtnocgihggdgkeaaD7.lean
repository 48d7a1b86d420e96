/-
  Orders, signs and powers of rows, as program and reference compute them.
  Conditions: none.
-/
import Derived.Test.YtnocgihggdgkeaaD3
import Derived.Test.YtnocgihggdgkeaaPh
set_option linter.unusedSimpArgs false
set_option linter.unusedVariables false
set_option linter.defProp false
namespace Go.Proofs.Ytnocgihggdgkeaa
open Go Go.RowKit
def t_ipowers_1 : X := (.cond (.t 14) .skip (.exit 0))
theorem u_ipowers_1 (P : Program) (k : KT) (e : Env) (w : World) : vcK P t_ipowers_1 k e w = vcK P (.cond (.t 14) .skip (.exit 0)) k e w := rfl
def t_ipowers_2 : X := (.reg [0, 3, 4] (.c (.q 15 [] (.mv (.t 4))) (.c (.q 16 [] (.mv (.t 0))) (.c (.e (some 17) [] (.call false 99 [(.t 15), (.t 16)])) (.c (.q 4 [] (.mv (.t 17))) .nil)))))
theorem u_ipowers_2 (P : Program) (k : KT) (e : Env) (w : World) : vcK P t_ipowers_2 k e w = vcK P (.reg [0, 3, 4] (.c (.q 15 [] (.mv (.t 4))) (.c (.q 16 [] (.mv (.t 0))) (.c (.e (some 17) [] (.call false 99 [(.t 15), (.t 16)])) (.c (.q 4 [] (.mv (.t 17))) .nil))))) k e w := rfl
def t_ipowers_3 : X := (.seq (.blk 1 (.reg [0, 3, 4] (.c (.q 18 [] (.mv (.t 3))) (.c (.q 19 [] (.mv (.t 4))) (.c (.e (some 20) [] (.bsl 9 1 [(.t 19)])) (.c (.e (some 21) [] (.app 22 9 1 16 [(S [])] 22 (.t 18) (.t 20))) (.c (.q 3 [] (.mv (.t 21))) .nil))))))) t_ipowers_2)
theorem u_ipowers_3 (P : Program) (k : KT) (e : Env) (w : World) : vcK P t_ipowers_3 k e w = vcK P (.seq (.blk 1 (.reg [0, 3, 4] (.c (.q 18 [] (.mv (.t 3))) (.c (.q 19 [] (.mv (.t 4))) (.c (.e (some 20) [] (.bsl 9 1 [(.t 19)])) (.c (.e (some 21) [] (.app 22 9 1 16 [(S [])] 22 (.t 18) (.t 20))) (.c (.q 3 [] (.mv (.t 21))) .nil))))))) t_ipowers_2) k e w := rfl
def t_ipowers_4 : X := (.seq (.seq (.reg [0, 3, 4, 14] (.c (.q 10 [] (.mv (.t 4))) (.c (.q 11 [] (.mv (.t 3))) (.c (.q 12 [] (.ia 1 (.t 11) (.c (.int .i64 0)))) (.c (.q 13 [] (.ld (.t 12))) (.c (.q 14 [] (.bin .neq (.t 10) (.t 13))) .nil)))))) t_ipowers_1) t_ipowers_3)
theorem u_ipowers_4 (P : Program) (k : KT) (e : Env) (w : World) : vcK P t_ipowers_4 k e w = vcK P (.seq (.seq (.reg [0, 3, 4, 14] (.c (.q 10 [] (.mv (.t 4))) (.c (.q 11 [] (.mv (.t 3))) (.c (.q 12 [] (.ia 1 (.t 11) (.c (.int .i64 0)))) (.c (.q 13 [] (.ld (.t 12))) (.c (.q 14 [] (.bin .neq (.t 10) (.t 13))) .nil)))))) t_ipowers_1) t_ipowers_3) k e w := rfl
def t_ipowers_5 : X := (.blk 0 (.loop [3, 4] [0] t_ipowers_4))
theorem u_ipowers_5 (P : Program) (k : KT) (e : Env) (w : World) : vcK P t_ipowers_5 k e w = vcK P (.blk 0 (.loop [3, 4] [0] t_ipowers_4)) k e w := rfl
def t_ipowers_6 : X := (.seq (.reg [2] (.c (.q 22 [] (.mv (.t 3))) (.c (.q 2 [] (.mv (.t 22))) .nil))) .ret)
theorem u_ipowers_6 (P : Program) (k : KT) (e : Env) (w : World) : vcK P t_ipowers_6 k e w = vcK P (.seq (.reg [2] (.c (.q 22 [] (.mv (.t 3))) (.c (.q 2 [] (.mv (.t 22))) .nil))) .ret) k e w := rfl
def t_ipowers_7 : X := (.seq (.seq (.reg [0, 3, 4] (.c (.q 9 [] (.mv (.t 0))) (.c (.q 4 [] (.mv (.t 9))) .nil))) t_ipowers_5) t_ipowers_6)
theorem u_ipowers_7 (P : Program) (k : KT) (e : Env) (w : World) : vcK P t_ipowers_7 k e w = vcK P (.seq (.seq (.reg [0, 3, 4] (.c (.q 9 [] (.mv (.t 0))) (.c (.q 4 [] (.mv (.t 9))) .nil))) t_ipowers_5) t_ipowers_6) k e w := rfl
def t_ipowers_8 : X := (.seq (.reg [0, 3] (.c (.q 5 [] (.mv (.t 0))) (.c (.q 6 [] (.len (.t 5))) (.c (.e (some 7) [] (.call false 104 [(.t 6)])) (.c (.e (some 8) [] (.bsl 9 1 [(.t 7)])) (.c (.q 3 [] (.mv (.t 8))) .nil)))))) t_ipowers_7)
theorem u_ipowers_8 (P : Program) (k : KT) (e : Env) (w : World) : vcK P t_ipowers_8 k e w = vcK P (.seq (.reg [0, 3] (.c (.q 5 [] (.mv (.t 0))) (.c (.q 6 [] (.len (.t 5))) (.c (.e (some 7) [] (.call false 104 [(.t 6)])) (.c (.e (some 8) [] (.bsl 9 1 [(.t 7)])) (.c (.q 3 [] (.mv (.t 8))) .nil)))))) t_ipowers_7) k e w := rfl
def x_ipowers : X := (.seq (.reg [0] (.c (.q 2 [] (.mv (.c (.slice none 0 0)))) .nil)) t_ipowers_8)
theorem u_ipowers (P : Program) (k : KT) (e : Env) (w : World) : vcK P x_ipowers k e w = vcK P (.seq (.reg [0] (.c (.q 2 [] (.mv (.c (.slice none 0 0)))) .nil)) t_ipowers_8) k e w := rfl
def r_ipowers : List XO := [(.mv (.t 2))]
theorem c_ipowers : convF Try.prog [95, 96, 97, 107, 117, 118, 128, 129, 134, 144, 145, 153, 156, 174, 175, 182] Try.f109 [([0], []), ([0, 3], []), ([0, 3, 4], []), ([3, 4], [0]), ([0, 3, 4, 14], []), ([0, 3, 4], []), ([0, 3, 4], []), ([2], [])] = some (x_ipowers, r_ipowers) := by kernel_rfl
def us_ipowers := And.intro @u_ipowers (And.intro @u_ipowers_1 (And.intro @u_ipowers_2 (And.intro @u_ipowers_3 (And.intro @u_ipowers_4 (And.intro @u_ipowers_5 (And.intro @u_ipowers_6 (And.intro @u_ipowers_7 @u_ipowers_8)))))))
def t_iOrderOf_1 : X := (.cond (.t 6) (.seq (.reg [2, 3] (.c (.q 2 [] (.mv (.c (.int .i64 0)))) (.c (.q 3 [] (.mv (.c (.bool false)))) .nil))) .ret) .skip)
theorem u_iOrderOf_1 (P : Program) (k : KT) (e : Env) (w : World) : vcK P t_iOrderOf_1 k e w = vcK P (.cond (.t 6) (.seq (.reg [2, 3] (.c (.q 2 [] (.mv (.c (.int .i64 0)))) (.c (.q 3 [] (.mv (.c (.bool false)))) .nil))) .ret) .skip) k e w := rfl
def t_iOrderOf_2 : X := (.seq (.reg [2, 3] (.c (.q 7 [] (.mv (.t 0))) (.c (.e (some 8) [] (.call false 109 [(.t 7)])) (.c (.q 9 [] (.lens (.t 8))) (.c (.q 2 [] (.mv (.t 9))) (.c (.q 3 [] (.mv (.c (.bool true)))) .nil)))))) .ret)
theorem u_iOrderOf_2 (P : Program) (k : KT) (e : Env) (w : World) : vcK P t_iOrderOf_2 k e w = vcK P (.seq (.reg [2, 3] (.c (.q 7 [] (.mv (.t 0))) (.c (.e (some 8) [] (.call false 109 [(.t 7)])) (.c (.q 9 [] (.lens (.t 8))) (.c (.q 2 [] (.mv (.t 9))) (.c (.q 3 [] (.mv (.c (.bool true)))) .nil)))))) .ret) k e w := rfl
def t_iOrderOf_3 : X := (.seq (.seq (.reg [0, 6] (.c (.q 4 [] (.mv (.t 0))) (.c (.e (some 5) [] (.call false 24 [(.t 4)])) (.c (.q 6 [] (.not (.t 5))) .nil)))) t_iOrderOf_1) t_iOrderOf_2)
theorem u_iOrderOf_3 (P : Program) (k : KT) (e : Env) (w : World) : vcK P t_iOrderOf_3 k e w = vcK P (.seq (.seq (.reg [0, 6] (.c (.q 4 [] (.mv (.t 0))) (.c (.e (some 5) [] (.call false 24 [(.t 4)])) (.c (.q 6 [] (.not (.t 5))) .nil)))) t_iOrderOf_1) t_iOrderOf_2) k e w := rfl
def x_iOrderOf : X := (.seq (.reg [0] (.c (.q 2 [] (.mv (.c (.int .i64 0)))) (.c (.q 3 [] (.mv (.c (.bool false)))) .nil))) t_iOrderOf_3)
theorem u_iOrderOf (P : Program) (k : KT) (e : Env) (w : World) : vcK P x_iOrderOf k e w = vcK P (.seq (.reg [0] (.c (.q 2 [] (.mv (.c (.int .i64 0)))) (.c (.q 3 [] (.mv (.c (.bool false)))) .nil))) t_iOrderOf_3) k e w := rfl
def r_iOrderOf : List XO := [(.mv (.t 2)), (.mv (.t 3))]
theorem c_iOrderOf : convF Try.prog [95, 96, 97, 107, 117, 118, 128, 129, 134, 144, 145, 153, 156, 174, 175, 182] Try.f35 [([0], []), ([0, 6], []), ([2, 3], []), ([2, 3], [])] = some (x_iOrderOf, r_iOrderOf) := by kernel_rfl
def us_iOrderOf := And.intro @u_iOrderOf (And.intro @u_iOrderOf_1 (And.intro @u_iOrderOf_2 @u_iOrderOf_3))
def t_sl1Order_1 : X := (.cond (.t 10) .skip (.exit 0))
theorem u_sl1Order_1 (P : Program) (k : KT) (e : Env) (w : World) : vcK P t_sl1Order_1 k e w = vcK P (.cond (.t 10) .skip (.exit 0)) k e w := rfl
def t_sl1Order_2 : X := (.reg [0, 3, 4] (.c (.q 11 [] (.mv (.t 4))) (.c (.q 12 [] (.mv (.t 0))) (.c (.e (some 13) [] (.call false 101 [(.t 11), (.t 12)])) (.c (.q 4 [] (.mv (.t 13))) .nil)))))
theorem u_sl1Order_2 (P : Program) (k : KT) (e : Env) (w : World) : vcK P t_sl1Order_2 k e w = vcK P (.reg [0, 3, 4] (.c (.q 11 [] (.mv (.t 4))) (.c (.q 12 [] (.mv (.t 0))) (.c (.e (some 13) [] (.call false 101 [(.t 11), (.t 12)])) (.c (.q 4 [] (.mv (.t 13))) .nil))))) k e w := rfl
def t_sl1Order_3 : X := (.seq (.blk 1 (.reg [0, 3, 4] (.c (.q 14 [] (.mv (.t 3))) (.c (.q 15 [] (.bin .add (.t 14) (.c (.int .i64 1)))) (.c (.q 3 [] (.mv (.t 15))) .nil))))) t_sl1Order_2)
theorem u_sl1Order_3 (P : Program) (k : KT) (e : Env) (w : World) : vcK P t_sl1Order_3 k e w = vcK P (.seq (.blk 1 (.reg [0, 3, 4] (.c (.q 14 [] (.mv (.t 3))) (.c (.q 15 [] (.bin .add (.t 14) (.c (.int .i64 1)))) (.c (.q 3 [] (.mv (.t 15))) .nil))))) t_sl1Order_2) k e w := rfl
def t_sl1Order_4 : X := (.seq (.seq (.reg [0, 3, 4, 10] (.c (.q 6 [] (.mv (.t 4))) (.c (.q 7 [] (.mv (.t 0))) (.c (.q 8 [] (.len (.t 7))) (.c (.e (some 9) [] (.call false 108 [(.t 8)])) (.c (.q 10 [] (.bin .neq (.t 6) (.t 9))) .nil)))))) t_sl1Order_1) t_sl1Order_3)
theorem u_sl1Order_4 (P : Program) (k : KT) (e : Env) (w : World) : vcK P t_sl1Order_4 k e w = vcK P (.seq (.seq (.reg [0, 3, 4, 10] (.c (.q 6 [] (.mv (.t 4))) (.c (.q 7 [] (.mv (.t 0))) (.c (.q 8 [] (.len (.t 7))) (.c (.e (some 9) [] (.call false 108 [(.t 8)])) (.c (.q 10 [] (.bin .neq (.t 6) (.t 9))) .nil)))))) t_sl1Order_1) t_sl1Order_3) k e w := rfl
def t_sl1Order_5 : X := (.blk 0 (.loop [3, 4] [0] t_sl1Order_4))
theorem u_sl1Order_5 (P : Program) (k : KT) (e : Env) (w : World) : vcK P t_sl1Order_5 k e w = vcK P (.blk 0 (.loop [3, 4] [0] t_sl1Order_4)) k e w := rfl
def t_sl1Order_6 : X := (.seq (.reg [2] (.c (.q 16 [] (.mv (.t 3))) (.c (.q 2 [] (.mv (.t 16))) .nil))) .ret)
theorem u_sl1Order_6 (P : Program) (k : KT) (e : Env) (w : World) : vcK P t_sl1Order_6 k e w = vcK P (.seq (.reg [2] (.c (.q 16 [] (.mv (.t 3))) (.c (.q 2 [] (.mv (.t 16))) .nil))) .ret) k e w := rfl
def t_sl1Order_7 : X := (.seq (.seq (.reg [0, 3, 4] (.c (.q 5 [] (.mv (.t 0))) (.c (.q 4 [] (.mv (.t 5))) .nil))) t_sl1Order_5) t_sl1Order_6)
theorem u_sl1Order_7 (P : Program) (k : KT) (e : Env) (w : World) : vcK P t_sl1Order_7 k e w = vcK P (.seq (.seq (.reg [0, 3, 4] (.c (.q 5 [] (.mv (.t 0))) (.c (.q 4 [] (.mv (.t 5))) .nil))) t_sl1Order_5) t_sl1Order_6) k e w := rfl
def t_sl1Order_8 : X := (.seq (.reg [0, 3] (.c (.q 3 [] (.mv (.c (.int .i64 1)))) .nil)) t_sl1Order_7)
theorem u_sl1Order_8 (P : Program) (k : KT) (e : Env) (w : World) : vcK P t_sl1Order_8 k e w = vcK P (.seq (.reg [0, 3] (.c (.q 3 [] (.mv (.c (.int .i64 1)))) .nil)) t_sl1Order_7) k e w := rfl
def x_sl1Order : X := (.seq (.reg [0] (.c (.q 2 [] (.mv (.c (.int .i64 0)))) .nil)) t_sl1Order_8)
theorem u_sl1Order (P : Program) (k : KT) (e : Env) (w : World) : vcK P x_sl1Order k e w = vcK P (.seq (.reg [0] (.c (.q 2 [] (.mv (.c (.int .i64 0)))) .nil)) t_sl1Order_8) k e w := rfl
def r_sl1Order : List XO := [(.mv (.t 2))]
theorem c_sl1Order : convF Try.prog [95, 96, 97, 107, 117, 118, 128, 129, 134, 144, 145, 153, 156, 174, 175, 182] Try.f110 [([0], []), ([0, 3], []), ([0, 3, 4], []), ([3, 4], [0]), ([0, 3, 4, 10], []), ([0, 3, 4], []), ([0, 3, 4], []), ([2], [])] = some (x_sl1Order, r_sl1Order) := by kernel_rfl
def us_sl1Order := And.intro @u_sl1Order (And.intro @u_sl1Order_1 (And.intro @u_sl1Order_2 (And.intro @u_sl1Order_3 (And.intro @u_sl1Order_4 (And.intro @u_sl1Order_5 (And.intro @u_sl1Order_6 (And.intro @u_sl1Order_7 @u_sl1Order_8)))))))
def t_sOrderOf_1 : X := (.cond (.t 6) (.seq (.reg [2, 3] (.c (.q 2 [] (.mv (.c (.int .i64 0)))) (.c (.q 3 [] (.mv (.c (.bool false)))) .nil))) .ret) .skip)
theorem u_sOrderOf_1 (P : Program) (k : KT) (e : Env) (w : World) : vcK P t_sOrderOf_1 k e w = vcK P (.cond (.t 6) (.seq (.reg [2, 3] (.c (.q 2 [] (.mv (.c (.int .i64 0)))) (.c (.q 3 [] (.mv (.c (.bool false)))) .nil))) .ret) .skip) k e w := rfl
def t_sOrderOf_2 : X := (.seq (.reg [2, 3] (.c (.q 7 [] (.mv (.t 0))) (.c (.e (some 8) [] (.call false 110 [(.t 7)])) (.c (.q 2 [] (.mv (.t 8))) (.c (.q 3 [] (.mv (.c (.bool true)))) .nil))))) .ret)
theorem u_sOrderOf_2 (P : Program) (k : KT) (e : Env) (w : World) : vcK P t_sOrderOf_2 k e w = vcK P (.seq (.reg [2, 3] (.c (.q 7 [] (.mv (.t 0))) (.c (.e (some 8) [] (.call false 110 [(.t 7)])) (.c (.q 2 [] (.mv (.t 8))) (.c (.q 3 [] (.mv (.c (.bool true)))) .nil))))) .ret) k e w := rfl
def t_sOrderOf_3 : X := (.seq (.seq (.reg [0, 6] (.c (.q 4 [] (.mv (.t 0))) (.c (.e (some 5) [] (.call false 103 [(.t 4)])) (.c (.q 6 [] (.not (.t 5))) .nil)))) t_sOrderOf_1) t_sOrderOf_2)
theorem u_sOrderOf_3 (P : Program) (k : KT) (e : Env) (w : World) : vcK P t_sOrderOf_3 k e w = vcK P (.seq (.seq (.reg [0, 6] (.c (.q 4 [] (.mv (.t 0))) (.c (.e (some 5) [] (.call false 103 [(.t 4)])) (.c (.q 6 [] (.not (.t 5))) .nil)))) t_sOrderOf_1) t_sOrderOf_2) k e w := rfl
def x_sOrderOf : X := (.seq (.reg [0] (.c (.q 2 [] (.mv (.c (.int .i64 0)))) (.c (.q 3 [] (.mv (.c (.bool false)))) .nil))) t_sOrderOf_3)
theorem u_sOrderOf (P : Program) (k : KT) (e : Env) (w : World) : vcK P x_sOrderOf k e w = vcK P (.seq (.reg [0] (.c (.q 2 [] (.mv (.c (.int .i64 0)))) (.c (.q 3 [] (.mv (.c (.bool false)))) .nil))) t_sOrderOf_3) k e w := rfl
def r_sOrderOf : List XO := [(.mv (.t 2)), (.mv (.t 3))]
theorem c_sOrderOf : convF Try.prog [95, 96, 97, 107, 117, 118, 128, 129, 134, 144, 145, 153, 156, 174, 175, 182] Try.f36 [([0], []), ([0, 6], []), ([2, 3], []), ([2, 3], [])] = some (x_sOrderOf, r_sOrderOf) := by kernel_rfl
def us_sOrderOf := And.intro @u_sOrderOf (And.intro @u_sOrderOf_1 (And.intro @u_sOrderOf_2 @u_sOrderOf_3))
def t_ieven_1 : X := (.cond (.t 21) (.reg [0, 3, 4, 7, 8, 11, 12] (.c (.q 22 [] (.mv (.t 3))) (.c (.q 23 [] (.not (.t 22))) (.c (.q 3 [] (.mv (.t 23))) .nil)))) .skip)
theorem u_ieven_1 (P : Program) (k : KT) (e : Env) (w : World) : vcK P t_ieven_1 k e w = vcK P (.cond (.t 21) (.reg [0, 3, 4, 7, 8, 11, 12] (.c (.q 22 [] (.mv (.t 3))) (.c (.q 23 [] (.not (.t 22))) (.c (.q 3 [] (.mv (.t 23))) .nil)))) .skip) k e w := rfl
def t_ieven_2 : X := (.seq (.drw [0, 3, 4, 7, 8, 11, 12, 21] (.c (.q 15 [] (.mv (.t 0))) (.c (.q 16 [] (.mv (.t 5))) (.c (.q 17 [] (.idx (.t 15) (.t 16))) (.c (.q 18 [] (.mv (.t 0))) (.c (.q 19 [] (.mv (.t 4))) (.c (.q 20 [] (.idx (.t 18) (.t 19))) (.c (.q 21 [] (.bin .gtr (.t 17) (.t 20))) .nil)))))))) t_ieven_1)
theorem u_ieven_2 (P : Program) (k : KT) (e : Env) (w : World) : vcK P t_ieven_2 k e w = vcK P (.seq (.drw [0, 3, 4, 7, 8, 11, 12, 21] (.c (.q 15 [] (.mv (.t 0))) (.c (.q 16 [] (.mv (.t 5))) (.c (.q 17 [] (.idx (.t 15) (.t 16))) (.c (.q 18 [] (.mv (.t 0))) (.c (.q 19 [] (.mv (.t 4))) (.c (.q 20 [] (.idx (.t 18) (.t 19))) (.c (.q 21 [] (.bin .gtr (.t 17) (.t 20))) .nil)))))))) t_ieven_1) k e w := rfl
def t_ieven_3 : X := (.reg [0, 3, 4, 7, 8, 11, 12] (.c (.q 24 [] (.bin .add (.t 12) (.c (.int .i64 1)))) (.c (.q 12 [] (.mv (.t 24))) .nil)))
theorem u_ieven_3 (P : Program) (k : KT) (e : Env) (w : World) : vcK P t_ieven_3 k e w = vcK P (.reg [0, 3, 4, 7, 8, 11, 12] (.c (.q 24 [] (.bin .add (.t 12) (.c (.int .i64 1)))) (.c (.q 12 [] (.mv (.t 24))) .nil))) k e w := rfl
def t_ieven_4 : X := (.seq (.blk 3 (.seq (.reg [0, 3, 4, 5, 7, 8, 11, 12] (.c (.q 14 [] (.mv (.t 12))) (.c (.q 5 [] (.mv (.t 14))) .nil))) t_ieven_2)) t_ieven_3)
theorem u_ieven_4 (P : Program) (k : KT) (e : Env) (w : World) : vcK P t_ieven_4 k e w = vcK P (.seq (.blk 3 (.seq (.reg [0, 3, 4, 5, 7, 8, 11, 12] (.c (.q 14 [] (.mv (.t 12))) (.c (.q 5 [] (.mv (.t 14))) .nil))) t_ieven_2)) t_ieven_3) k e w := rfl
def t_ieven_5 : X := (.seq (.cond (.t 13) .skip (.exit 2)) t_ieven_4)
theorem u_ieven_5 (P : Program) (k : KT) (e : Env) (w : World) : vcK P t_ieven_5 k e w = vcK P (.seq (.cond (.t 13) .skip (.exit 2)) t_ieven_4) k e w := rfl
def t_ieven_6 : X := (.seq (.reg [0, 3, 4, 7, 8, 11, 12, 13] (.c (.q 13 [] (.bin .lss (.t 12) (.t 11))) .nil)) t_ieven_5)
theorem u_ieven_6 (P : Program) (k : KT) (e : Env) (w : World) : vcK P t_ieven_6 k e w = vcK P (.seq (.reg [0, 3, 4, 7, 8, 11, 12, 13] (.c (.q 13 [] (.bin .lss (.t 12) (.t 11))) .nil)) t_ieven_5) k e w := rfl
def t_ieven_7 : X := (.blk 2 (.loop [3, 12] [0, 4, 7, 8, 11] t_ieven_6))
theorem u_ieven_7 (P : Program) (k : KT) (e : Env) (w : World) : vcK P t_ieven_7 k e w = vcK P (.blk 2 (.loop [3, 12] [0, 4, 7, 8, 11] t_ieven_6)) k e w := rfl
def t_ieven_8 : X := (.seq (.reg [0, 3, 4, 7, 8, 11, 12] (.c (.q 11 [] (.mv (.t 4))) (.c (.q 12 [] (.mv (.c (.int .i64 0)))) .nil))) t_ieven_7)
theorem u_ieven_8 (P : Program) (k : KT) (e : Env) (w : World) : vcK P t_ieven_8 k e w = vcK P (.seq (.reg [0, 3, 4, 7, 8, 11, 12] (.c (.q 11 [] (.mv (.t 4))) (.c (.q 12 [] (.mv (.c (.int .i64 0)))) .nil))) t_ieven_7) k e w := rfl
def t_ieven_9 : X := (.reg [0, 3, 7, 8] (.c (.q 25 [] (.bin .add (.t 8) (.c (.int .i64 1)))) (.c (.q 8 [] (.mv (.t 25))) .nil)))
theorem u_ieven_9 (P : Program) (k : KT) (e : Env) (w : World) : vcK P t_ieven_9 k e w = vcK P (.reg [0, 3, 7, 8] (.c (.q 25 [] (.bin .add (.t 8) (.c (.int .i64 1)))) (.c (.q 8 [] (.mv (.t 25))) .nil))) k e w := rfl
def t_ieven_10 : X := (.seq (.blk 1 (.seq (.reg [0, 3, 4, 7, 8] (.c (.q 10 [] (.mv (.t 8))) (.c (.q 4 [] (.mv (.t 10))) .nil))) t_ieven_8)) t_ieven_9)
theorem u_ieven_10 (P : Program) (k : KT) (e : Env) (w : World) : vcK P t_ieven_10 k e w = vcK P (.seq (.blk 1 (.seq (.reg [0, 3, 4, 7, 8] (.c (.q 10 [] (.mv (.t 8))) (.c (.q 4 [] (.mv (.t 10))) .nil))) t_ieven_8)) t_ieven_9) k e w := rfl
def t_ieven_11 : X := (.seq (.cond (.t 9) .skip (.exit 0)) t_ieven_10)
theorem u_ieven_11 (P : Program) (k : KT) (e : Env) (w : World) : vcK P t_ieven_11 k e w = vcK P (.seq (.cond (.t 9) .skip (.exit 0)) t_ieven_10) k e w := rfl
def t_ieven_12 : X := (.seq (.reg [0, 3, 7, 8, 9] (.c (.q 9 [] (.bin .lss (.t 8) (.t 7))) .nil)) t_ieven_11)
theorem u_ieven_12 (P : Program) (k : KT) (e : Env) (w : World) : vcK P t_ieven_12 k e w = vcK P (.seq (.reg [0, 3, 7, 8, 9] (.c (.q 9 [] (.bin .lss (.t 8) (.t 7))) .nil)) t_ieven_11) k e w := rfl
def t_ieven_13 : X := (.blk 0 (.loop [3, 8] [0, 7] t_ieven_12))
theorem u_ieven_13 (P : Program) (k : KT) (e : Env) (w : World) : vcK P t_ieven_13 k e w = vcK P (.blk 0 (.loop [3, 8] [0, 7] t_ieven_12)) k e w := rfl
def t_ieven_14 : X := (.seq (.reg [2] (.c (.q 26 [] (.mv (.t 3))) (.c (.q 2 [] (.mv (.t 26))) .nil))) .ret)
theorem u_ieven_14 (P : Program) (k : KT) (e : Env) (w : World) : vcK P t_ieven_14 k e w = vcK P (.seq (.reg [2] (.c (.q 26 [] (.mv (.t 3))) (.c (.q 2 [] (.mv (.t 26))) .nil))) .ret) k e w := rfl
def t_ieven_15 : X := (.seq (.seq (.reg [0, 3, 7, 8] (.c (.q 6 [] (.mv (.t 0))) (.c (.q 7 [] (.len (.t 6))) (.c (.q 8 [] (.mv (.c (.int .i64 0)))) .nil)))) t_ieven_13) t_ieven_14)
theorem u_ieven_15 (P : Program) (k : KT) (e : Env) (w : World) : vcK P t_ieven_15 k e w = vcK P (.seq (.seq (.reg [0, 3, 7, 8] (.c (.q 6 [] (.mv (.t 0))) (.c (.q 7 [] (.len (.t 6))) (.c (.q 8 [] (.mv (.c (.int .i64 0)))) .nil)))) t_ieven_13) t_ieven_14) k e w := rfl
def t_ieven_16 : X := (.seq (.reg [0, 3] (.c (.q 3 [] (.mv (.c (.bool true)))) .nil)) t_ieven_15)
theorem u_ieven_16 (P : Program) (k : KT) (e : Env) (w : World) : vcK P t_ieven_16 k e w = vcK P (.seq (.reg [0, 3] (.c (.q 3 [] (.mv (.c (.bool true)))) .nil)) t_ieven_15) k e w := rfl
def x_ieven : X := (.seq (.reg [0] (.c (.q 2 [] (.mv (.c (.bool false)))) .nil)) t_ieven_16)
theorem u_ieven (P : Program) (k : KT) (e : Env) (w : World) : vcK P x_ieven k e w = vcK P (.seq (.reg [0] (.c (.q 2 [] (.mv (.c (.bool false)))) .nil)) t_ieven_16) k e w := rfl
def r_ieven : List XO := [(.mv (.t 2))]
theorem c_ieven : convF Try.prog [95, 96, 97, 107, 117, 118, 128, 129, 134, 144, 145, 153, 156, 174, 175, 182] Try.f111 [([0], []), ([0, 3], []), ([0, 3, 7, 8], []), ([3, 8], [0, 7]), ([0, 3, 7, 8, 9], []), ([0, 3, 4, 7, 8], []), ([0, 3, 4, 7, 8, 11, 12], []), ([3, 12], [0, 4, 7, 8, 11]), ([0, 3, 4, 7, 8, 11, 12, 13], []), ([0, 3, 4, 5, 7, 8, 11, 12], []), ([0, 3, 4, 7, 8, 11, 12, 21], []), ([0, 3, 4, 7, 8, 11, 12], []), ([0, 3, 4, 7, 8, 11, 12], []), ([0, 3, 7, 8], []), ([2], [])] = some (x_ieven, r_ieven) := by kernel_rfl
def us_ieven := And.intro @u_ieven (And.intro @u_ieven_1 (And.intro @u_ieven_2 (And.intro @u_ieven_3 (And.intro @u_ieven_4 (And.intro @u_ieven_5 (And.intro @u_ieven_6 (And.intro @u_ieven_7 (And.intro @u_ieven_8 (And.intro @u_ieven_9 (And.intro @u_ieven_10 (And.intro @u_ieven_11 (And.intro @u_ieven_12 (And.intro @u_ieven_13 (And.intro @u_ieven_14 (And.intro @u_ieven_15 @u_ieven_16)))))))))))))))
def t_iIsEven_1 : X := (.cond (.t 6) (.seq (.reg [2, 3] (.c (.q 2 [] (.mv (.c (.bool false)))) (.c (.q 3 [] (.mv (.c (.bool false)))) .nil))) .ret) .skip)
theorem u_iIsEven_1 (P : Program) (k : KT) (e : Env) (w : World) : vcK P t_iIsEven_1 k e w = vcK P (.cond (.t 6) (.seq (.reg [2, 3] (.c (.q 2 [] (.mv (.c (.bool false)))) (.c (.q 3 [] (.mv (.c (.bool false)))) .nil))) .ret) .skip) k e w := rfl
def t_iIsEven_2 : X := (.seq (.reg [2, 3] (.c (.q 7 [] (.mv (.t 0))) (.c (.e (some 8) [] (.call false 111 [(.t 7)])) (.c (.q 2 [] (.mv (.t 8))) (.c (.q 3 [] (.mv (.c (.bool true)))) .nil))))) .ret)
theorem u_iIsEven_2 (P : Program) (k : KT) (e : Env) (w : World) : vcK P t_iIsEven_2 k e w = vcK P (.seq (.reg [2, 3] (.c (.q 7 [] (.mv (.t 0))) (.c (.e (some 8) [] (.call false 111 [(.t 7)])) (.c (.q 2 [] (.mv (.t 8))) (.c (.q 3 [] (.mv (.c (.bool true)))) .nil))))) .ret) k e w := rfl
def t_iIsEven_3 : X := (.seq (.seq (.reg [0, 6] (.c (.q 4 [] (.mv (.t 0))) (.c (.e (some 5) [] (.call false 24 [(.t 4)])) (.c (.q 6 [] (.not (.t 5))) .nil)))) t_iIsEven_1) t_iIsEven_2)
theorem u_iIsEven_3 (P : Program) (k : KT) (e : Env) (w : World) : vcK P t_iIsEven_3 k e w = vcK P (.seq (.seq (.reg [0, 6] (.c (.q 4 [] (.mv (.t 0))) (.c (.e (some 5) [] (.call false 24 [(.t 4)])) (.c (.q 6 [] (.not (.t 5))) .nil)))) t_iIsEven_1) t_iIsEven_2) k e w := rfl
def x_iIsEven : X := (.seq (.reg [0] (.c (.q 2 [] (.mv (.c (.bool false)))) (.c (.q 3 [] (.mv (.c (.bool false)))) .nil))) t_iIsEven_3)
theorem u_iIsEven (P : Program) (k : KT) (e : Env) (w : World) : vcK P x_iIsEven k e w = vcK P (.seq (.reg [0] (.c (.q 2 [] (.mv (.c (.bool false)))) (.c (.q 3 [] (.mv (.c (.bool false)))) .nil))) t_iIsEven_3) k e w := rfl
def r_iIsEven : List XO := [(.mv (.t 2)), (.mv (.t 3))]
theorem c_iIsEven : convF Try.prog [95, 96, 97, 107, 117, 118, 128, 129, 134, 144, 145, 153, 156, 174, 175, 182] Try.f37 [([0], []), ([0, 6], []), ([2, 3], []), ([2, 3], [])] = some (x_iIsEven, r_iIsEven) := by kernel_rfl
def us_iIsEven := And.intro @u_iIsEven (And.intro @u_iIsEven_1 (And.intro @u_iIsEven_2 @u_iIsEven_3))
def t_sl1Even_1 : X := (.cond (.t 9) .skip (.exit 0))
theorem u_sl1Even_1 (P : Program) (k : KT) (e : Env) (w : World) : vcK P t_sl1Even_1 k e w = vcK P (.cond (.t 9) .skip (.exit 0)) k e w := rfl
def t_sl1Even_2 : X := (.cond (.t 14) .skip (.exit 2))
theorem u_sl1Even_2 (P : Program) (k : KT) (e : Env) (w : World) : vcK P t_sl1Even_2 k e w = vcK P (.cond (.t 14) .skip (.exit 2)) k e w := rfl
def t_sl1Even_3 : X := (.cond (.t 23) (.reg [0, 3, 4, 5] (.c (.q 24 [] (.mv (.t 3))) (.c (.q 25 [] (.not (.t 24))) (.c (.q 3 [] (.mv (.t 25))) .nil)))) .skip)
theorem u_sl1Even_3 (P : Program) (k : KT) (e : Env) (w : World) : vcK P t_sl1Even_3 k e w = vcK P (.cond (.t 23) (.reg [0, 3, 4, 5] (.c (.q 24 [] (.mv (.t 3))) (.c (.q 25 [] (.not (.t 24))) (.c (.q 3 [] (.mv (.t 25))) .nil)))) .skip) k e w := rfl
def t_sl1Even_4 : X := (.reg [0, 3, 4, 5] (.c (.q 15 [] (.mv (.t 5))) (.c (.q 16 [] (.bin .add (.t 15) (.c (.int .i64 1)))) (.c (.q 5 [] (.mv (.t 16))) .nil))))
theorem u_sl1Even_4 (P : Program) (k : KT) (e : Env) (w : World) : vcK P t_sl1Even_4 k e w = vcK P (.reg [0, 3, 4, 5] (.c (.q 15 [] (.mv (.t 5))) (.c (.q 16 [] (.bin .add (.t 15) (.c (.int .i64 1)))) (.c (.q 5 [] (.mv (.t 16))) .nil)))) k e w := rfl
def t_sl1Even_5 : X := (.seq (.blk 3 (.seq (.drw [0, 3, 4, 5, 23] (.c (.q 17 [] (.mv (.t 0))) (.c (.q 18 [] (.mv (.t 5))) (.c (.q 19 [] (.idx (.t 17) (.t 18))) (.c (.q 20 [] (.mv (.t 0))) (.c (.q 21 [] (.mv (.t 4))) (.c (.q 22 [] (.idx (.t 20) (.t 21))) (.c (.q 23 [] (.bin .gtr (.t 19) (.t 22))) .nil)))))))) t_sl1Even_3)) t_sl1Even_4)
theorem u_sl1Even_5 (P : Program) (k : KT) (e : Env) (w : World) : vcK P t_sl1Even_5 k e w = vcK P (.seq (.blk 3 (.seq (.drw [0, 3, 4, 5, 23] (.c (.q 17 [] (.mv (.t 0))) (.c (.q 18 [] (.mv (.t 5))) (.c (.q 19 [] (.idx (.t 17) (.t 18))) (.c (.q 20 [] (.mv (.t 0))) (.c (.q 21 [] (.mv (.t 4))) (.c (.q 22 [] (.idx (.t 20) (.t 21))) (.c (.q 23 [] (.bin .gtr (.t 19) (.t 22))) .nil)))))))) t_sl1Even_3)) t_sl1Even_4) k e w := rfl
def t_sl1Even_6 : X := (.seq (.seq (.reg [0, 3, 4, 5, 14] (.c (.q 12 [] (.mv (.t 5))) (.c (.q 13 [] (.mv (.t 4))) (.c (.q 14 [] (.bin .lss (.t 12) (.t 13))) .nil)))) t_sl1Even_2) t_sl1Even_5)
theorem u_sl1Even_6 (P : Program) (k : KT) (e : Env) (w : World) : vcK P t_sl1Even_6 k e w = vcK P (.seq (.seq (.reg [0, 3, 4, 5, 14] (.c (.q 12 [] (.mv (.t 5))) (.c (.q 13 [] (.mv (.t 4))) (.c (.q 14 [] (.bin .lss (.t 12) (.t 13))) .nil)))) t_sl1Even_2) t_sl1Even_5) k e w := rfl
def t_sl1Even_7 : X := (.blk 2 (.loop [3, 5] [0, 4] t_sl1Even_6))
theorem u_sl1Even_7 (P : Program) (k : KT) (e : Env) (w : World) : vcK P t_sl1Even_7 k e w = vcK P (.blk 2 (.loop [3, 5] [0, 4] t_sl1Even_6)) k e w := rfl
def t_sl1Even_8 : X := (.reg [0, 3, 4] (.c (.q 10 [] (.mv (.t 4))) (.c (.q 11 [] (.bin .add (.t 10) (.c (.int .i64 1)))) (.c (.q 4 [] (.mv (.t 11))) .nil))))
theorem u_sl1Even_8 (P : Program) (k : KT) (e : Env) (w : World) : vcK P t_sl1Even_8 k e w = vcK P (.reg [0, 3, 4] (.c (.q 10 [] (.mv (.t 4))) (.c (.q 11 [] (.bin .add (.t 10) (.c (.int .i64 1)))) (.c (.q 4 [] (.mv (.t 11))) .nil)))) k e w := rfl
def t_sl1Even_9 : X := (.seq (.blk 1 (.seq (.reg [0, 3, 4, 5] (.c (.q 5 [] (.mv (.c (.int .i64 0)))) .nil)) t_sl1Even_7)) t_sl1Even_8)
theorem u_sl1Even_9 (P : Program) (k : KT) (e : Env) (w : World) : vcK P t_sl1Even_9 k e w = vcK P (.seq (.blk 1 (.seq (.reg [0, 3, 4, 5] (.c (.q 5 [] (.mv (.c (.int .i64 0)))) .nil)) t_sl1Even_7)) t_sl1Even_8) k e w := rfl
def t_sl1Even_10 : X := (.seq (.seq (.reg [0, 3, 4, 9] (.c (.q 6 [] (.mv (.t 4))) (.c (.q 7 [] (.mv (.t 0))) (.c (.q 8 [] (.len (.t 7))) (.c (.q 9 [] (.bin .lss (.t 6) (.t 8))) .nil))))) t_sl1Even_1) t_sl1Even_9)
theorem u_sl1Even_10 (P : Program) (k : KT) (e : Env) (w : World) : vcK P t_sl1Even_10 k e w = vcK P (.seq (.seq (.reg [0, 3, 4, 9] (.c (.q 6 [] (.mv (.t 4))) (.c (.q 7 [] (.mv (.t 0))) (.c (.q 8 [] (.len (.t 7))) (.c (.q 9 [] (.bin .lss (.t 6) (.t 8))) .nil))))) t_sl1Even_1) t_sl1Even_9) k e w := rfl
def t_sl1Even_11 : X := (.blk 0 (.loop [3, 4] [0] t_sl1Even_10))
theorem u_sl1Even_11 (P : Program) (k : KT) (e : Env) (w : World) : vcK P t_sl1Even_11 k e w = vcK P (.blk 0 (.loop [3, 4] [0] t_sl1Even_10)) k e w := rfl
def t_sl1Even_12 : X := (.seq (.reg [2] (.c (.q 26 [] (.mv (.t 3))) (.c (.q 2 [] (.mv (.t 26))) .nil))) .ret)
theorem u_sl1Even_12 (P : Program) (k : KT) (e : Env) (w : World) : vcK P t_sl1Even_12 k e w = vcK P (.seq (.reg [2] (.c (.q 26 [] (.mv (.t 3))) (.c (.q 2 [] (.mv (.t 26))) .nil))) .ret) k e w := rfl
def t_sl1Even_13 : X := (.seq (.seq (.reg [0, 3, 4] (.c (.q 4 [] (.mv (.c (.int .i64 0)))) .nil)) t_sl1Even_11) t_sl1Even_12)
theorem u_sl1Even_13 (P : Program) (k : KT) (e : Env) (w : World) : vcK P t_sl1Even_13 k e w = vcK P (.seq (.seq (.reg [0, 3, 4] (.c (.q 4 [] (.mv (.c (.int .i64 0)))) .nil)) t_sl1Even_11) t_sl1Even_12) k e w := rfl
def t_sl1Even_14 : X := (.seq (.reg [0, 3] (.c (.q 3 [] (.mv (.c (.bool true)))) .nil)) t_sl1Even_13)
theorem u_sl1Even_14 (P : Program) (k : KT) (e : Env) (w : World) : vcK P t_sl1Even_14 k e w = vcK P (.seq (.reg [0, 3] (.c (.q 3 [] (.mv (.c (.bool true)))) .nil)) t_sl1Even_13) k e w := rfl
def x_sl1Even : X := (.seq (.reg [0] (.c (.q 2 [] (.mv (.c (.bool false)))) .nil)) t_sl1Even_14)
theorem u_sl1Even (P : Program) (k : KT) (e : Env) (w : World) : vcK P x_sl1Even k e w = vcK P (.seq (.reg [0] (.c (.q 2 [] (.mv (.c (.bool false)))) .nil)) t_sl1Even_14) k e w := rfl
def r_sl1Even : List XO := [(.mv (.t 2))]
theorem c_sl1Even : convF Try.prog [95, 96, 97, 107, 117, 118, 128, 129, 134, 144, 145, 153, 156, 174, 175, 182] Try.f113 [([0], []), ([0, 3], []), ([0, 3, 4], []), ([3, 4], [0]), ([0, 3, 4, 9], []), ([0, 3, 4, 5], []), ([3, 5], [0, 4]), ([0, 3, 4, 5, 14], []), ([0, 3, 4, 5, 23], []), ([0, 3, 4, 5], []), ([0, 3, 4, 5], []), ([0, 3, 4], []), ([2], [])] = some (x_sl1Even, r_sl1Even) := by kernel_rfl
def us_sl1Even := And.intro @u_sl1Even (And.intro @u_sl1Even_1 (And.intro @u_sl1Even_2 (And.intro @u_sl1Even_3 (And.intro @u_sl1Even_4 (And.intro @u_sl1Even_5 (And.intro @u_sl1Even_6 (And.intro @u_sl1Even_7 (And.intro @u_sl1Even_8 (And.intro @u_sl1Even_9 (And.intro @u_sl1Even_10 (And.intro @u_sl1Even_11 (And.intro @u_sl1Even_12 (And.intro @u_sl1Even_13 @u_sl1Even_14)))))))))))))
def t_sIsEven_1 : X := (.cond (.t 6) (.seq (.reg [2, 3] (.c (.q 2 [] (.mv (.c (.bool false)))) (.c (.q 3 [] (.mv (.c (.bool false)))) .nil))) .ret) .skip)
theorem u_sIsEven_1 (P : Program) (k : KT) (e : Env) (w : World) : vcK P t_sIsEven_1 k e w = vcK P (.cond (.t 6) (.seq (.reg [2, 3] (.c (.q 2 [] (.mv (.c (.bool false)))) (.c (.q 3 [] (.mv (.c (.bool false)))) .nil))) .ret) .skip) k e w := rfl
def t_sIsEven_2 : X := (.seq (.reg [2, 3] (.c (.q 7 [] (.mv (.t 0))) (.c (.e (some 8) [] (.call false 113 [(.t 7)])) (.c (.q 2 [] (.mv (.t 8))) (.c (.q 3 [] (.mv (.c (.bool true)))) .nil))))) .ret)
theorem u_sIsEven_2 (P : Program) (k : KT) (e : Env) (w : World) : vcK P t_sIsEven_2 k e w = vcK P (.seq (.reg [2, 3] (.c (.q 7 [] (.mv (.t 0))) (.c (.e (some 8) [] (.call false 113 [(.t 7)])) (.c (.q 2 [] (.mv (.t 8))) (.c (.q 3 [] (.mv (.c (.bool true)))) .nil))))) .ret) k e w := rfl
def t_sIsEven_3 : X := (.seq (.seq (.reg [0, 6] (.c (.q 4 [] (.mv (.t 0))) (.c (.e (some 5) [] (.call false 103 [(.t 4)])) (.c (.q 6 [] (.not (.t 5))) .nil)))) t_sIsEven_1) t_sIsEven_2)
theorem u_sIsEven_3 (P : Program) (k : KT) (e : Env) (w : World) : vcK P t_sIsEven_3 k e w = vcK P (.seq (.seq (.reg [0, 6] (.c (.q 4 [] (.mv (.t 0))) (.c (.e (some 5) [] (.call false 103 [(.t 4)])) (.c (.q 6 [] (.not (.t 5))) .nil)))) t_sIsEven_1) t_sIsEven_2) k e w := rfl
def x_sIsEven : X := (.seq (.reg [0] (.c (.q 2 [] (.mv (.c (.bool false)))) (.c (.q 3 [] (.mv (.c (.bool false)))) .nil))) t_sIsEven_3)
theorem u_sIsEven (P : Program) (k : KT) (e : Env) (w : World) : vcK P x_sIsEven k e w = vcK P (.seq (.reg [0] (.c (.q 2 [] (.mv (.c (.bool false)))) (.c (.q 3 [] (.mv (.c (.bool false)))) .nil))) t_sIsEven_3) k e w := rfl
def r_sIsEven : List XO := [(.mv (.t 2)), (.mv (.t 3))]
theorem c_sIsEven : convF Try.prog [95, 96, 97, 107, 117, 118, 128, 129, 134, 144, 145, 153, 156, 174, 175, 182] Try.f41 [([0], []), ([0, 6], []), ([2, 3], []), ([2, 3], [])] = some (x_sIsEven, r_sIsEven) := by kernel_rfl
def us_sIsEven := And.intro @u_sIsEven (And.intro @u_sIsEven_1 (And.intro @u_sIsEven_2 @u_sIsEven_3))
def t_sl1Power_1 : X := (.reg [0, 1] (.c (.q 10 [] (.mv (.t 1))) (.c (.q 11 [] (.neg (.t 10))) (.c (.q 1 [] (.mv (.t 11))) .nil))))
theorem u_sl1Power_1 (P : Program) (k : KT) (e : Env) (w : World) : vcK P t_sl1Power_1 k e w = vcK P (.reg [0, 1] (.c (.q 10 [] (.mv (.t 1))) (.c (.q 11 [] (.neg (.t 10))) (.c (.q 1 [] (.mv (.t 11))) .nil)))) k e w := rfl
def t_sl1Power_2 : X := (.cond (.t 7) (.seq (.reg [0, 1] (.c (.q 8 [] (.mv (.t 0))) (.c (.e (some 9) [] (.call false 106 [(.t 8)])) (.c (.q 0 [] (.mv (.t 9))) .nil)))) t_sl1Power_1) .skip)
theorem u_sl1Power_2 (P : Program) (k : KT) (e : Env) (w : World) : vcK P t_sl1Power_2 k e w = vcK P (.cond (.t 7) (.seq (.reg [0, 1] (.c (.q 8 [] (.mv (.t 0))) (.c (.e (some 9) [] (.call false 106 [(.t 8)])) (.c (.q 0 [] (.mv (.t 9))) .nil)))) t_sl1Power_1) .skip) k e w := rfl
def t_sl1Power_3 : X := (.cond (.t 16) .skip (.exit 0))
theorem u_sl1Power_3 (P : Program) (k : KT) (e : Env) (w : World) : vcK P t_sl1Power_3 k e w = vcK P (.cond (.t 16) .skip (.exit 0)) k e w := rfl
def t_sl1Power_4 : X := (.reg [0, 1, 5] (.c (.q 17 [] (.mv (.t 1))) (.c (.q 18 [] (.bin .sub (.t 17) (.c (.int .i64 1)))) (.c (.q 1 [] (.mv (.t 18))) .nil))))
theorem u_sl1Power_4 (P : Program) (k : KT) (e : Env) (w : World) : vcK P t_sl1Power_4 k e w = vcK P (.reg [0, 1, 5] (.c (.q 17 [] (.mv (.t 1))) (.c (.q 18 [] (.bin .sub (.t 17) (.c (.int .i64 1)))) (.c (.q 1 [] (.mv (.t 18))) .nil)))) k e w := rfl
def t_sl1Power_5 : X := (.seq (.blk 1 (.reg [0, 1, 5] (.c (.q 19 [] (.mv (.t 5))) (.c (.q 20 [] (.mv (.t 0))) (.c (.e (some 21) [] (.call false 101 [(.t 19), (.t 20)])) (.c (.q 5 [] (.mv (.t 21))) .nil)))))) t_sl1Power_4)
theorem u_sl1Power_5 (P : Program) (k : KT) (e : Env) (w : World) : vcK P t_sl1Power_5 k e w = vcK P (.seq (.blk 1 (.reg [0, 1, 5] (.c (.q 19 [] (.mv (.t 5))) (.c (.q 20 [] (.mv (.t 0))) (.c (.e (some 21) [] (.call false 101 [(.t 19), (.t 20)])) (.c (.q 5 [] (.mv (.t 21))) .nil)))))) t_sl1Power_4) k e w := rfl
def t_sl1Power_6 : X := (.seq (.seq (.reg [0, 1, 5, 16] (.c (.q 15 [] (.mv (.t 1))) (.c (.q 16 [] (.bin .gtr (.t 15) (.c (.int .i64 0)))) .nil))) t_sl1Power_3) t_sl1Power_5)
theorem u_sl1Power_6 (P : Program) (k : KT) (e : Env) (w : World) : vcK P t_sl1Power_6 k e w = vcK P (.seq (.seq (.reg [0, 1, 5, 16] (.c (.q 15 [] (.mv (.t 1))) (.c (.q 16 [] (.bin .gtr (.t 15) (.c (.int .i64 0)))) .nil))) t_sl1Power_3) t_sl1Power_5) k e w := rfl
def t_sl1Power_7 : X := (.seq (.reg [4] (.c (.q 22 [] (.mv (.t 5))) (.c (.q 4 [] (.mv (.t 22))) .nil))) .ret)
theorem u_sl1Power_7 (P : Program) (k : KT) (e : Env) (w : World) : vcK P t_sl1Power_7 k e w = vcK P (.seq (.reg [4] (.c (.q 22 [] (.mv (.t 5))) (.c (.q 4 [] (.mv (.t 22))) .nil))) .ret) k e w := rfl
def t_sl1Power_8 : X := (.seq (.blk 0 (.loop [1, 5] [0] t_sl1Power_6)) t_sl1Power_7)
theorem u_sl1Power_8 (P : Program) (k : KT) (e : Env) (w : World) : vcK P t_sl1Power_8 k e w = vcK P (.seq (.blk 0 (.loop [1, 5] [0] t_sl1Power_6)) t_sl1Power_7) k e w := rfl
def t_sl1Power_9 : X := (.seq (.reg [0, 1, 5] (.c (.q 12 [] (.mv (.t 0))) (.c (.q 13 [] (.len (.t 12))) (.c (.e (some 14) [] (.call false 108 [(.t 13)])) (.c (.q 5 [] (.mv (.t 14))) .nil))))) t_sl1Power_8)
theorem u_sl1Power_9 (P : Program) (k : KT) (e : Env) (w : World) : vcK P t_sl1Power_9 k e w = vcK P (.seq (.reg [0, 1, 5] (.c (.q 12 [] (.mv (.t 0))) (.c (.q 13 [] (.len (.t 12))) (.c (.e (some 14) [] (.call false 108 [(.t 13)])) (.c (.q 5 [] (.mv (.t 14))) .nil))))) t_sl1Power_8) k e w := rfl
def t_sl1Power_10 : X := (.seq (.seq (.reg [0, 1, 7] (.c (.q 6 [] (.mv (.t 1))) (.c (.q 7 [] (.bin .lss (.t 6) (.c (.int .i64 0)))) .nil))) t_sl1Power_2) t_sl1Power_9)
theorem u_sl1Power_10 (P : Program) (k : KT) (e : Env) (w : World) : vcK P t_sl1Power_10 k e w = vcK P (.seq (.seq (.reg [0, 1, 7] (.c (.q 6 [] (.mv (.t 1))) (.c (.q 7 [] (.bin .lss (.t 6) (.c (.int .i64 0)))) .nil))) t_sl1Power_2) t_sl1Power_9) k e w := rfl
def x_sl1Power : X := (.seq (.reg [0, 1] (.c (.q 4 [] (.mv (.s []))) .nil)) t_sl1Power_10)
theorem u_sl1Power (P : Program) (k : KT) (e : Env) (w : World) : vcK P x_sl1Power k e w = vcK P (.seq (.reg [0, 1] (.c (.q 4 [] (.mv (.s []))) .nil)) t_sl1Power_10) k e w := rfl
def r_sl1Power : List XO := [(.mv (.t 4))]
theorem c_sl1Power : convF Try.prog [95, 96, 97, 107, 117, 118, 128, 129, 134, 144, 145, 153, 156, 174, 175, 182] Try.f112 [([0, 1], []), ([0, 1, 7], []), ([0, 1], []), ([0, 1], []), ([0, 1, 5], []), ([1, 5], [0]), ([0, 1, 5, 16], []), ([0, 1, 5], []), ([0, 1, 5], []), ([4], [])] = some (x_sl1Power, r_sl1Power) := by kernel_rfl
def us_sl1Power := And.intro @u_sl1Power (And.intro @u_sl1Power_1 (And.intro @u_sl1Power_2 (And.intro @u_sl1Power_3 (And.intro @u_sl1Power_4 (And.intro @u_sl1Power_5 (And.intro @u_sl1Power_6 (And.intro @u_sl1Power_7 (And.intro @u_sl1Power_8 (And.intro @u_sl1Power_9 @u_sl1Power_10)))))))))
def t_sPowerOf_1 : X := (.cond (.t 13) (.seq (.reg [4, 5] (.c (.q 4 [] (.mv (.s []))) (.c (.q 5 [] (.mv (.c (.bool false)))) .nil))) .ret) .skip)
theorem u_sPowerOf_1 (P : Program) (k : KT) (e : Env) (w : World) : vcK P t_sPowerOf_1 k e w = vcK P (.cond (.t 13) (.seq (.reg [4, 5] (.c (.q 4 [] (.mv (.s []))) (.c (.q 5 [] (.mv (.c (.bool false)))) .nil))) .ret) .skip) k e w := rfl
def t_sPowerOf_2 : X := (.seq (.reg [4, 5] (.c (.q 14 [] (.mv (.t 0))) (.c (.q 15 [] (.mv (.t 1))) (.c (.e (some 16) [] (.call false 112 [(.t 14), (.t 15)])) (.c (.q 4 [] (.mv (.t 16))) (.c (.q 5 [] (.mv (.c (.bool true)))) .nil)))))) .ret)
theorem u_sPowerOf_2 (P : Program) (k : KT) (e : Env) (w : World) : vcK P t_sPowerOf_2 k e w = vcK P (.seq (.reg [4, 5] (.c (.q 14 [] (.mv (.t 0))) (.c (.q 15 [] (.mv (.t 1))) (.c (.e (some 16) [] (.call false 112 [(.t 14), (.t 15)])) (.c (.q 4 [] (.mv (.t 16))) (.c (.q 5 [] (.mv (.c (.bool true)))) .nil)))))) .ret) k e w := rfl
def t_sPowerOf_3 : X := (.seq (.seq (.reg [0, 1, 13] (.c (.q 6 [] (.mv (.t 0))) (.c (.e (some 7) [] (.call false 103 [(.t 6)])) (.c (.q 8 [] (.not (.t 7))) (.c (.q 9 [] (.mv (.t 8))) (.c (.q 10 [(9, false)] (.mv (.t 1))) (.c (.e (some 11) [(9, false)] (.call false 87 [(.t 10), (.c (.int .i64 (-1000))), (.c (.int .i64 1000))])) (.c (.q 12 [(9, false)] (.not (.t 11))) (.c (.q 13 [] (.pick (.t 9) (.c (.bool true)) (.t 12))) .nil))))))))) t_sPowerOf_1) t_sPowerOf_2)
theorem u_sPowerOf_3 (P : Program) (k : KT) (e : Env) (w : World) : vcK P t_sPowerOf_3 k e w = vcK P (.seq (.seq (.reg [0, 1, 13] (.c (.q 6 [] (.mv (.t 0))) (.c (.e (some 7) [] (.call false 103 [(.t 6)])) (.c (.q 8 [] (.not (.t 7))) (.c (.q 9 [] (.mv (.t 8))) (.c (.q 10 [(9, false)] (.mv (.t 1))) (.c (.e (some 11) [(9, false)] (.call false 87 [(.t 10), (.c (.int .i64 (-1000))), (.c (.int .i64 1000))])) (.c (.q 12 [(9, false)] (.not (.t 11))) (.c (.q 13 [] (.pick (.t 9) (.c (.bool true)) (.t 12))) .nil))))))))) t_sPowerOf_1) t_sPowerOf_2) k e w := rfl
def x_sPowerOf : X := (.seq (.reg [0, 1] (.c (.q 4 [] (.mv (.s []))) (.c (.q 5 [] (.mv (.c (.bool false)))) .nil))) t_sPowerOf_3)
theorem u_sPowerOf (P : Program) (k : KT) (e : Env) (w : World) : vcK P x_sPowerOf k e w = vcK P (.seq (.reg [0, 1] (.c (.q 4 [] (.mv (.s []))) (.c (.q 5 [] (.mv (.c (.bool false)))) .nil))) t_sPowerOf_3) k e w := rfl
def r_sPowerOf : List XO := [(.mv (.t 4)), (.mv (.t 5))]
theorem c_sPowerOf : convF Try.prog [95, 96, 97, 107, 117, 118, 128, 129, 134, 144, 145, 153, 156, 174, 175, 182] Try.f39 [([0, 1], []), ([0, 1, 13], []), ([4, 5], []), ([4, 5], [])] = some (x_sPowerOf, r_sPowerOf) := by kernel_rfl
def us_sPowerOf := And.intro @u_sPowerOf (And.intro @u_sPowerOf_1 (And.intro @u_sPowerOf_2 @u_sPowerOf_3))

theorem inv_snoc (l : List UInt8) (y : UInt8) : invL (l ++ [y]) = invL l + (l.filter fun x => decide (y.toNat < x.toNat)).length := by
  induction l with
  | nil => simp [invL]
  | cons x l ih =>
    simp only [List.cons_append, invL, ih, List.filter_append, List.length_append, List.filter_cons, List.filter_nil]
    split <;> simp <;> omega
/-- Even so far: i bells, of the next one k comparisons. -/
def evN (a : List UInt8) (i k : Nat) : Nat := invL (a.take i) + ((a.take k).filter fun x => decide ((a.getD i 0).toNat < x.toNat)).length
theorem evN_step (a : List UInt8) (i k : Nat) (hk : k < a.length) : evN a i (k + 1) = evN a i k + if (a.getD i 0).toNat < (a.getD k 0).toNat then 1 else 0 := by
  unfold evN
  rw [List.take_add_one, List.getElem?_eq_getElem hk, List.filter_append, List.length_append, List.getD_eq_getElem?_getD, List.getD_eq_getElem?_getD, List.getElem?_eq_getElem hk]
  simp only [Option.toList_some, Option.getD_some, List.filter_cons, List.filter_nil, decide_eq_true_eq]
  split <;> simp <;> omega
theorem evN_next (a : List UInt8) (i : Nat) (hi : i < a.length) : evN a i i = invL (a.take (i + 1)) := by
  have e : a.take (i + 1) = a.take i ++ [a.getD i 0] := by
    rw [List.take_add_one, List.getElem?_eq_getElem hi, List.getD_eq_getElem?_getD, List.getElem?_eq_getElem hi]; rfl
  rw [e, inv_snoc]; rfl
def evB (n : Nat) : Bool := decide (n % 2 = 0)
theorem evB_not (n : Nat) : evB (n + 1) = !evB n := by
  unfold evB
  rw [← decide_not]
  exact decide_eq_decide.2 (by omega)
theorem ieven_ok (a : List UInt8) (ha : a.length ≤ 8) (w : World) : Fn 111 [S a] w (fun r _ => r = .bool (evB (invL a))) := by
  (refine callsV_of mix Try.func111 c_ieven ?_; simp only [↓vsd, vsn, gW, qd, qv, ev, pick, argE, List.map_cons, List.map_nil, Option.map_some, Option.map_none, zipE, List.cons_append, List.nil_append, ne_eq, eq_self, forall_const, implies_true, if_true, if_false, reduceIte, List.cons.injEq, reduceCtorEq, Nat.reduceEqDiff, List.length_nil, List.length_cons, Nat.reduceAdd, Nat.reduceLT, List.set_cons_zero, List.set_cons_succ, ↓us_ieven, r_ieven])
  refine m_upto a.length (fun i vs w' => vs = [.bool (evB (invL (a.take i))), .int .i64 i] ∧ Ext w w') ⟨by rfl, Ext.refl _⟩ ?_
  rintro i vs w1 hi ⟨rfl, hx⟩
  by_cases hlt : i < a.length
  · have hltI : (i : Int) < a.length := by omega
    have hltJ : ¬ (a.length : Int) ≤ i := by omega
    simp only [↓vsd, vsn, gW, qd, qv, ev, pick, argE, List.map_cons, List.map_nil, Option.map_some, Option.map_none, zipE, List.cons_append, List.nil_append, ne_eq, eq_self, forall_const, implies_true, if_true, if_false, reduceIte, List.cons.injEq, reduceCtorEq, Nat.reduceEqDiff, List.length_nil, List.length_cons, Nat.reduceAdd, Nat.reduceLT, List.set_cons_zero, List.set_cons_succ, ↓us_ieven, r_ieven, hltI, hltJ]
    refine m_upto i (fun k vs w' => vs = [.bool (evB (evN a i k)), .int .i64 k] ∧ Ext w w') ⟨by simp [evN], hx⟩ ?_
    rintro k vs w2 hk ⟨rfl, hx2⟩
    by_cases hkl : k < i
    · have hkI : (k : Int) < i := by omega
      have hkJ : ¬ (i : Int) ≤ k := by omega
      have hs := evN_step a i k (by omega)
      simp only [↓vsd, vsn, gW, qd, qv, ev, pick, argE, List.map_cons, List.map_nil, Option.map_some, Option.map_none, zipE, List.cons_append, List.nil_append, ne_eq, eq_self, forall_const, implies_true, if_true, if_false, reduceIte, List.cons.injEq, reduceCtorEq, Nat.reduceEqDiff, List.length_nil, List.length_cons, Nat.reduceAdd, Nat.reduceLT, List.set_cons_zero, List.set_cons_succ, ↓us_ieven, r_ieven, hkI, hkJ]
      refine ⟨by omega, by omega, fun hgt => ⟨inR_i64 (by omega), UpTo.next hkl ⟨?_, by first | exact hx2 | exact dr hx2⟩⟩, fun hle => ⟨inR_i64 (by omega), UpTo.next hkl ⟨?_, by first | exact hx2 | exact dr hx2⟩⟩⟩
      · rw [hs, if_pos (by omega), evB_not]; rfl
      · rw [hs, if_neg (by omega)]; rfl
    · obtain rfl : k = i := by omega
      have hkI : ¬ (k : Int) < k := by omega
      simp only [↓vsd, vsn, gW, qd, qv, ev, pick, argE, List.map_cons, List.map_nil, Option.map_some, Option.map_none, zipE, List.cons_append, List.nil_append, ne_eq, eq_self, forall_const, implies_true, if_true, if_false, reduceIte, List.cons.injEq, reduceCtorEq, Nat.reduceEqDiff, List.length_nil, List.length_cons, Nat.reduceAdd, Nat.reduceLT, List.set_cons_zero, List.set_cons_succ, ↓us_ieven, r_ieven, hkI]
      exact ⟨inR_i64 (by omega), UpTo.next hlt ⟨by rw [evN_next a k hlt]; rfl, hx2⟩⟩
  · obtain rfl : i = a.length := by omega
    have hltI : ¬ (a.length : Int) < a.length := by omega
    simp only [↓vsd, vsn, gW, qd, qv, ev, pick, argE, List.map_cons, List.map_nil, Option.map_some, Option.map_none, zipE, List.cons_append, List.nil_append, ne_eq, eq_self, forall_const, implies_true, if_true, if_false, reduceIte, List.cons.injEq, reduceCtorEq, Nat.reduceEqDiff, List.length_nil, List.length_cons, Nat.reduceAdd, Nat.reduceLT, List.set_cons_zero, List.set_cons_succ, ↓us_ieven, r_ieven, hltI]
    exact ⟨hx, by rw [List.take_length]⟩
theorem Own.one1 {α : Type} {f : α → List Value} {z E B : Nat} {w : World} {a : α} {b : Nat} {cs : List Value} (hz : ∀ a, (f a).length = z) (hb : Blk w b cs E) (e : cs = f a) (hB : B ≤ b) : Own f z E B w (.slice (some ⟨b, 0, none⟩) 1 1) [a] :=
  ⟨hz, .inr ⟨b, 1, cs, rfl, hB, hb, Nat.le_refl _, by decide, by rw [e, hz, Nat.one_mul], by rw [e]; simp only [List.length_singleton, Nat.one_mul, List.flatMap_cons, List.flatMap_nil, List.append_nil]; rw [← hz a, List.take_length]⟩⟩
theorem ipowers_ok (a : List UInt8) (n : Nat) (ha : IsRow a) (ho : IsOrd a n) (w : World) : Fn 109 [S a] w (fun r w' => Own fS 1 9 w.heap.size w' r ((List.range n).map (powL a))) := by
  (refine callsV_of mix Try.func109 c_ipowers ?_; simp only [↓vsd, vsn, gW, qd, qv, ev, pick, argE, List.map_cons, List.map_nil, Option.map_some, Option.map_none, zipE, List.cons_append, List.nil_append, ne_eq, eq_self, forall_const, implies_true, if_true, if_false, reduceIte, List.cons.injEq, reduceCtorEq, Nat.reduceEqDiff, List.length_nil, List.length_cons, Nat.reduceAdd, Nat.reduceLT, List.set_cons_zero, List.set_cons_succ, ↓us_ipowers, r_ipowers])
  refine m_call (irounds_ok a.length (by have := ha.1; omega) _) ?_
  rintro _ w1 hx1 rfl
  simp only [↓vsd, vsn, gW, qd, qv, ev, pick, argE, List.map_cons, List.map_nil, Option.map_some, Option.map_none, zipE, List.cons_append, List.nil_append, ne_eq, eq_self, forall_const, implies_true, if_true, if_false, reduceIte, List.cons.injEq, reduceCtorEq, Nat.reduceEqDiff, List.length_nil, List.length_cons, Nat.reduceAdd, Nat.reduceLT, List.set_cons_zero, List.set_cons_succ, ↓us_ipowers, r_ipowers]
  refine m_bsl (one_el rfl) ?_
  rintro b w2 hb hblk hx2 hs2
  simp only [↓vsd, vsn, gW, qd, qv, ev, pick, argE, List.map_cons, List.map_nil, Option.map_some, Option.map_none, zipE, List.cons_append, List.nil_append, ne_eq, eq_self, forall_const, implies_true, if_true, if_false, reduceIte, List.cons.injEq, reduceCtorEq, Nat.reduceEqDiff, List.length_nil, List.length_cons, Nat.reduceAdd, Nat.reduceLT, List.set_cons_zero, List.set_cons_succ, ↓us_ipowers, r_ipowers]
  have h8 := ha.1
  have hp1 : powL a 1 = a := by show timesL (roundsL a.length) a = a; exact rounds_times ha
  have hx12 := hx1.trans hx2
  have hin : 0 < n := ho.1
  refine m_upto (n - 1) (fun k vs w' => ∃ v, vs = [v, S (powL a (k + 1))] ∧ Own fS 1 9 w.heap.size w' v ((List.range (k + 1)).map (powL a)) ∧ Ext w w') ⟨_, by rw [hp1], (Own.one1 fS_len hblk rfl (by have := hx1.size; omega)).to rfl, hx12⟩ ?_
  rintro k vs w3 hk ⟨v, rfl, ho3, hx3⟩
  have h0 : 0 < ((List.range (k + 1)).map (powL a)).length := by simp
  have hg0 : ((List.range (k + 1)).map (powL a)).getD 0 [] = roundsL a.length := by
    rw [List.getD_eq_getElem?_getD, List.getElem?_map, List.getElem?_range (by omega)]; rfl
  simp only [↓vsd, vsn, gW, qd, qv, ev, pick, argE, List.map_cons, List.map_nil, Option.map_some, Option.map_none, zipE, List.cons_append, List.nil_append, ne_eq, eq_self, forall_const, implies_true, if_true, if_false, reduceIte, List.cons.injEq, reduceCtorEq, Nat.reduceEqDiff, List.length_nil, List.length_cons, Nat.reduceAdd, Nat.reduceLT, List.set_cons_zero, List.set_cons_succ, ↓us_ipowers, r_ipowers, ho3.sq.facts, ho3.sq.at0 [] h0, hg0]
  have hin2 := ho.2.1
  have hl3 : ((List.range (k + 1)).map (powL a)).length = k + 1 := by simp
  refine ⟨by omega, fun hne => m_bsl (one_el rfl) ?_, fun he => ⟨hx3, ?_⟩⟩
  · rintro b4 w4 hb4 hblk4 hx4 hs4
    simp only [↓vsd, vsn, gW, qd, qv, ev, pick, argE, List.map_cons, List.map_nil, Option.map_some, Option.map_none, zipE, List.cons_append, List.nil_append, ne_eq, eq_self, forall_const, implies_true, if_true, if_false, reduceIte, List.cons.injEq, reduceCtorEq, Nat.reduceEqDiff, List.length_nil, List.length_cons, Nat.reduceAdd, Nat.reduceLT, List.set_cons_zero, List.set_cons_succ, ↓us_ipowers, r_ipowers]
    refine m_app (ho3.ext hx4) (Sq.one fS_len hblk4 rfl) fS_one (by decide) (by rw [hl3]; simp only [List.length_singleton]; omega) (by decide) ((hx3.trans hx4).size) ?_
    rintro v5 w5 ho5 hg5
    have hx5 := (ho3.ext hx4).grown (hx3.trans hx4) (Nat.le_refl _) hg5
    simp only [↓vsd, vsn, gW, qd, qv, ev, pick, argE, List.map_cons, List.map_nil, Option.map_some, Option.map_none, zipE, List.cons_append, List.nil_append, ne_eq, eq_self, forall_const, implies_true, if_true, if_false, reduceIte, List.cons.injEq, reduceCtorEq, Nat.reduceEqDiff, List.length_nil, List.length_cons, Nat.reduceAdd, Nat.reduceLT, List.set_cons_zero, List.set_cons_succ, ↓us_ipowers, r_ipowers]
    refine m_call (itimes_ok _ _ ha (powL_len _ _) _) ?_
    rintro _ w6 hx6 rfl
    simp only [↓vsd, vsn, gW, qd, qv, ev, pick, argE, List.map_cons, List.map_nil, Option.map_some, Option.map_none, zipE, List.cons_append, List.nil_append, ne_eq, eq_self, forall_const, implies_true, if_true, if_false, reduceIte, List.cons.injEq, reduceCtorEq, Nat.reduceEqDiff, List.length_nil, List.length_cons, Nat.reduceAdd, Nat.reduceLT, List.set_cons_zero, List.set_cons_succ, ↓us_ipowers, r_ipowers]
    have hlt : k < n - 1 := by
      rcases Nat.lt_or_ge k (n - 1) with h | h
      · exact h
      · exact absurd (by rw [show k + 1 = n by omega]; exact ho.2.2.1) hne
    exact UpTo.next hlt ⟨v5, rfl, (ho5.to (by rw [List.range_succ (n := k + 1), List.map_append]; rfl)).ext hx6, hx5.trans hx6⟩
  · have : k + 1 = n := by
      rcases Nat.lt_or_ge (k + 1) n with h | h
      · exact absurd he (ho.2.2.2 (k + 1) (by omega) h)
      · omega
    rw [← this]; exact ho3
theorem sl1Order_ok (a : List UInt8) (n : Nat) (ha : IsRow a) (ho : IsOrd a n) (w : World) : Fn 110 [S a] w (fun r _ => r = .int .i64 (n : Nat)) := by
  (refine callsV_of mix Try.func110 c_sl1Order ?_; simp only [↓vsd, vsn, gW, qd, qv, ev, pick, argE, List.map_cons, List.map_nil, Option.map_some, Option.map_none, zipE, List.cons_append, List.nil_append, ne_eq, eq_self, forall_const, implies_true, if_true, if_false, reduceIte, List.cons.injEq, reduceCtorEq, Nat.reduceEqDiff, List.length_nil, List.length_cons, Nat.reduceAdd, Nat.reduceLT, List.set_cons_zero, List.set_cons_succ, ↓us_sl1Order, r_sl1Order])
  have h8 := ha.1
  have hp1 : powL a 1 = a := by show timesL (roundsL a.length) a = a; exact rounds_times ha
  refine m_upto (n - 1) (fun k vs w' => vs = [.int .i64 (k + 1 : Nat), S (powL a (k + 1))] ∧ Ext w w') ⟨by rw [hp1]; rfl, Ext.refl _⟩ ?_
  rintro k vs w1 hk ⟨rfl, hx⟩
  simp only [↓vsd, vsn, gW, qd, qv, ev, pick, argE, List.map_cons, List.map_nil, Option.map_some, Option.map_none, zipE, List.cons_append, List.nil_append, ne_eq, eq_self, forall_const, implies_true, if_true, if_false, reduceIte, List.cons.injEq, reduceCtorEq, Nat.reduceEqDiff, List.length_nil, List.length_cons, Nat.reduceAdd, Nat.reduceLT, List.set_cons_zero, List.set_cons_succ, ↓us_sl1Order, r_sl1Order]
  refine m_call (sl1Rounds_ok a.length (by omega) _) ?_
  rintro _ w2 hx2 rfl
  simp only [↓vsd, vsn, gW, qd, qv, ev, pick, argE, List.map_cons, List.map_nil, Option.map_some, Option.map_none, zipE, List.cons_append, List.nil_append, ne_eq, eq_self, forall_const, implies_true, if_true, if_false, reduceIte, List.cons.injEq, reduceCtorEq, Nat.reduceEqDiff, List.length_nil, List.length_cons, Nat.reduceAdd, Nat.reduceLT, List.set_cons_zero, List.set_cons_succ, ↓us_sl1Order, r_sl1Order]
  have hin := ho.2.1
  refine ⟨fun hne => ⟨inR_i64 (by omega), m_call (sl1Times_ok _ _ ha (powL_len _ _) _) ?_⟩, fun he => ⟨hx.trans hx2, ?_⟩⟩
  · rintro _ w3 hx3 rfl
    simp only [↓vsd, vsn, gW, qd, qv, ev, pick, argE, List.map_cons, List.map_nil, Option.map_some, Option.map_none, zipE, List.cons_append, List.nil_append, ne_eq, eq_self, forall_const, implies_true, if_true, if_false, reduceIte, List.cons.injEq, reduceCtorEq, Nat.reduceEqDiff, List.length_nil, List.length_cons, Nat.reduceAdd, Nat.reduceLT, List.set_cons_zero, List.set_cons_succ, ↓us_sl1Order, r_sl1Order]
    have hlt : k < n - 1 := by
      rcases Nat.lt_or_ge k (n - 1) with h | h
      · exact h
      · exact absurd (by rw [show k + 1 = n by have := ho.1; omega]; exact ho.2.2.1) hne
    exact UpTo.next hlt ⟨rfl, (hx.trans hx2).trans hx3⟩
  · have : k + 1 = n := by
      rcases Nat.lt_or_ge (k + 1) n with h | h
      · exact absurd he (ho.2.2.2 (k + 1) (by omega) h)
      · have := ho.1; omega
    rw [this]
theorem sl1Even_ok (a : List UInt8) (ha : a.length ≤ 8) (w : World) : Fn 113 [S a] w (fun r _ => r = .bool (evB (invL a))) := by
  (refine callsV_of mix Try.func113 c_sl1Even ?_; simp only [↓vsd, vsn, gW, qd, qv, ev, pick, argE, List.map_cons, List.map_nil, Option.map_some, Option.map_none, zipE, List.cons_append, List.nil_append, ne_eq, eq_self, forall_const, implies_true, if_true, if_false, reduceIte, List.cons.injEq, reduceCtorEq, Nat.reduceEqDiff, List.length_nil, List.length_cons, Nat.reduceAdd, Nat.reduceLT, List.set_cons_zero, List.set_cons_succ, ↓us_sl1Even, r_sl1Even])
  refine m_upto a.length (fun i vs w' => vs = [.bool (evB (invL (a.take i))), .int .i64 i] ∧ Ext w w') ⟨by rfl, Ext.refl _⟩ ?_
  rintro i vs w1 hi ⟨rfl, hx⟩
  by_cases hlt : i < a.length
  · have hltI : (i : Int) < a.length := by omega
    have hltJ : ¬ (a.length : Int) ≤ i := by omega
    simp only [↓vsd, vsn, gW, qd, qv, ev, pick, argE, List.map_cons, List.map_nil, Option.map_some, Option.map_none, zipE, List.cons_append, List.nil_append, ne_eq, eq_self, forall_const, implies_true, if_true, if_false, reduceIte, List.cons.injEq, reduceCtorEq, Nat.reduceEqDiff, List.length_nil, List.length_cons, Nat.reduceAdd, Nat.reduceLT, List.set_cons_zero, List.set_cons_succ, ↓us_sl1Even, r_sl1Even, hltI, hltJ]
    refine m_upto i (fun k vs w' => vs = [.bool (evB (evN a i k)), .int .i64 k] ∧ Ext w w') ⟨by simp [evN], hx⟩ ?_
    rintro k vs w2 hk ⟨rfl, hx2⟩
    by_cases hkl : k < i
    · have hkI : (k : Int) < i := by omega
      have hkJ : ¬ (i : Int) ≤ k := by omega
      have hs := evN_step a i k (by omega)
      simp only [↓vsd, vsn, gW, qd, qv, ev, pick, argE, List.map_cons, List.map_nil, Option.map_some, Option.map_none, zipE, List.cons_append, List.nil_append, ne_eq, eq_self, forall_const, implies_true, if_true, if_false, reduceIte, List.cons.injEq, reduceCtorEq, Nat.reduceEqDiff, List.length_nil, List.length_cons, Nat.reduceAdd, Nat.reduceLT, List.set_cons_zero, List.set_cons_succ, ↓us_sl1Even, r_sl1Even, hkI, hkJ]
      refine ⟨by omega, by omega, fun hgt => ⟨inR_i64 (by omega), UpTo.next hkl ⟨?_, by first | exact hx2 | exact dr hx2⟩⟩, fun hle => ⟨inR_i64 (by omega), UpTo.next hkl ⟨?_, by first | exact hx2 | exact dr hx2⟩⟩⟩
      · rw [hs, if_pos (by omega), evB_not]; rfl
      · rw [hs, if_neg (by omega)]; rfl
    · obtain rfl : k = i := by omega
      have hkI : ¬ (k : Int) < k := by omega
      simp only [↓vsd, vsn, gW, qd, qv, ev, pick, argE, List.map_cons, List.map_nil, Option.map_some, Option.map_none, zipE, List.cons_append, List.nil_append, ne_eq, eq_self, forall_const, implies_true, if_true, if_false, reduceIte, List.cons.injEq, reduceCtorEq, Nat.reduceEqDiff, List.length_nil, List.length_cons, Nat.reduceAdd, Nat.reduceLT, List.set_cons_zero, List.set_cons_succ, ↓us_sl1Even, r_sl1Even, hkI]
      exact ⟨inR_i64 (by omega), UpTo.next hlt ⟨by rw [evN_next a k hlt]; rfl, hx2⟩⟩
  · obtain rfl : i = a.length := by omega
    have hltI : ¬ (a.length : Int) < a.length := by omega
    simp only [↓vsd, vsn, gW, qd, qv, ev, pick, argE, List.map_cons, List.map_nil, Option.map_some, Option.map_none, zipE, List.cons_append, List.nil_append, ne_eq, eq_self, forall_const, implies_true, if_true, if_false, reduceIte, List.cons.injEq, reduceCtorEq, Nat.reduceEqDiff, List.length_nil, List.length_cons, Nat.reduceAdd, Nat.reduceLT, List.set_cons_zero, List.set_cons_succ, ↓us_sl1Even, r_sl1Even, hltI]
    exact ⟨hx, by rw [List.take_length]⟩
def evenV (a : List UInt8) : Value := if IsRow a then .tuple ⟨[.bool (evB (invL a)), .bool true]⟩ else .tuple ⟨[.bool false, .bool false]⟩
theorem iIsEven_ok (a : List UInt8) (w : World) : Fn 37 [S a] w (fun r _ => r = evenV a) := by
  (refine callsV_of mix Try.func37 c_iIsEven ?_; simp only [↓vsd, vsn, gW, qd, qv, ev, pick, argE, List.map_cons, List.map_nil, Option.map_some, Option.map_none, zipE, List.cons_append, List.nil_append, ne_eq, eq_self, forall_const, implies_true, if_true, if_false, reduceIte, List.cons.injEq, reduceCtorEq, Nat.reduceEqDiff, List.length_nil, List.length_cons, Nat.reduceAdd, Nat.reduceLT, List.set_cons_zero, List.set_cons_succ, ↓us_iIsEven, r_iIsEven])
  refine m_call (iGoodRow_ok _ _) ?_
  rintro _ w1 hx1 rfl
  simp only [↓vsd, vsn, gW, qd, qv, ev, pick, argE, List.map_cons, List.map_nil, Option.map_some, Option.map_none, zipE, List.cons_append, List.nil_append, ne_eq, eq_self, forall_const, implies_true, if_true, if_false, reduceIte, List.cons.injEq, reduceCtorEq, Nat.reduceEqDiff, List.length_nil, List.length_cons, Nat.reduceAdd, Nat.reduceLT, List.set_cons_zero, List.set_cons_succ, ↓us_iIsEven, r_iIsEven]
  refine ⟨fun h => ⟨hx1, by rw [evenV, if_neg h]⟩, fun h => m_call (ieven_ok a h.1.2 _) ?_⟩
  rintro _ w2 hx2 rfl
  simp only [↓vsd, vsn, gW, qd, qv, ev, pick, argE, List.map_cons, List.map_nil, Option.map_some, Option.map_none, zipE, List.cons_append, List.nil_append, ne_eq, eq_self, forall_const, implies_true, if_true, if_false, reduceIte, List.cons.injEq, reduceCtorEq, Nat.reduceEqDiff, List.length_nil, List.length_cons, Nat.reduceAdd, Nat.reduceLT, List.set_cons_zero, List.set_cons_succ, ↓us_iIsEven, r_iIsEven]
  exact ⟨hx1.trans hx2, by rw [evenV, if_pos h]⟩
theorem sIsEven_ok (a : List UInt8) (w : World) : Fn 41 [S a] w (fun r _ => r = evenV a) := by
  (refine callsV_of mix Try.func41 c_sIsEven ?_; simp only [↓vsd, vsn, gW, qd, qv, ev, pick, argE, List.map_cons, List.map_nil, Option.map_some, Option.map_none, zipE, List.cons_append, List.nil_append, ne_eq, eq_self, forall_const, implies_true, if_true, if_false, reduceIte, List.cons.injEq, reduceCtorEq, Nat.reduceEqDiff, List.length_nil, List.length_cons, Nat.reduceAdd, Nat.reduceLT, List.set_cons_zero, List.set_cons_succ, ↓us_sIsEven, r_sIsEven])
  refine m_call (sl1Row_ok _ _) ?_
  rintro _ w1 hx1 rfl
  simp only [↓vsd, vsn, gW, qd, qv, ev, pick, argE, List.map_cons, List.map_nil, Option.map_some, Option.map_none, zipE, List.cons_append, List.nil_append, ne_eq, eq_self, forall_const, implies_true, if_true, if_false, reduceIte, List.cons.injEq, reduceCtorEq, Nat.reduceEqDiff, List.length_nil, List.length_cons, Nat.reduceAdd, Nat.reduceLT, List.set_cons_zero, List.set_cons_succ, ↓us_sIsEven, r_sIsEven]
  refine ⟨fun h => ⟨hx1, by rw [evenV, if_neg h]⟩, fun h => m_call (sl1Even_ok a h.1.2 _) ?_⟩
  rintro _ w2 hx2 rfl
  simp only [↓vsd, vsn, gW, qd, qv, ev, pick, argE, List.map_cons, List.map_nil, Option.map_some, Option.map_none, zipE, List.cons_append, List.nil_append, ne_eq, eq_self, forall_const, implies_true, if_true, if_false, reduceIte, List.cons.injEq, reduceCtorEq, Nat.reduceEqDiff, List.length_nil, List.length_cons, Nat.reduceAdd, Nat.reduceLT, List.set_cons_zero, List.set_cons_succ, ↓us_sIsEven, r_sIsEven]
  exact ⟨hx1.trans hx2, by rw [evenV, if_pos h]⟩
def ordV (a : List UInt8) (n : Nat) : Value := if IsRow a then .tuple ⟨[.int .i64 (n : Nat), .bool true]⟩ else .tuple ⟨[.int .i64 0, .bool false]⟩
theorem iOrderOf_ok (a : List UInt8) (n : Nat) (ho : IsRow a → IsOrd a n) (w : World) : Fn 35 [S a] w (fun r _ => r = ordV a n) := by
  (refine callsV_of mix Try.func35 c_iOrderOf ?_; simp only [↓vsd, vsn, gW, qd, qv, ev, pick, argE, List.map_cons, List.map_nil, Option.map_some, Option.map_none, zipE, List.cons_append, List.nil_append, ne_eq, eq_self, forall_const, implies_true, if_true, if_false, reduceIte, List.cons.injEq, reduceCtorEq, Nat.reduceEqDiff, List.length_nil, List.length_cons, Nat.reduceAdd, Nat.reduceLT, List.set_cons_zero, List.set_cons_succ, ↓us_iOrderOf, r_iOrderOf])
  refine m_call (iGoodRow_ok _ _) ?_
  rintro _ w1 hx1 rfl
  by_cases h : IsRow a
  · simp only [↓vsd, vsn, gW, qd, qv, ev, pick, argE, List.map_cons, List.map_nil, Option.map_some, Option.map_none, zipE, List.cons_append, List.nil_append, ne_eq, eq_self, forall_const, implies_true, if_true, if_false, reduceIte, List.cons.injEq, reduceCtorEq, Nat.reduceEqDiff, List.length_nil, List.length_cons, Nat.reduceAdd, Nat.reduceLT, List.set_cons_zero, List.set_cons_succ, ↓us_iOrderOf, r_iOrderOf, h]
    refine m_call (ipowers_ok a n h (ho h) _) ?_
    rintro v w2 hx2 ho2
    simp only [↓vsd, vsn, gW, qd, qv, ev, pick, argE, List.map_cons, List.map_nil, Option.map_some, Option.map_none, zipE, List.cons_append, List.nil_append, ne_eq, eq_self, forall_const, implies_true, if_true, if_false, reduceIte, List.cons.injEq, reduceCtorEq, Nat.reduceEqDiff, List.length_nil, List.length_cons, Nat.reduceAdd, Nat.reduceLT, List.set_cons_zero, List.set_cons_succ, ↓us_iOrderOf, r_iOrderOf, ho2.sq.facts]
    exact ⟨hx1.trans hx2, by rw [ordV, if_pos h, List.length_map, List.length_range]⟩
  · simp only [↓vsd, vsn, gW, qd, qv, ev, pick, argE, List.map_cons, List.map_nil, Option.map_some, Option.map_none, zipE, List.cons_append, List.nil_append, ne_eq, eq_self, forall_const, implies_true, if_true, if_false, reduceIte, List.cons.injEq, reduceCtorEq, Nat.reduceEqDiff, List.length_nil, List.length_cons, Nat.reduceAdd, Nat.reduceLT, List.set_cons_zero, List.set_cons_succ, ↓us_iOrderOf, r_iOrderOf, h]
    exact ⟨hx1, by rw [ordV, if_neg h]⟩
theorem sOrderOf_ok (a : List UInt8) (n : Nat) (ho : IsRow a → IsOrd a n) (w : World) : Fn 36 [S a] w (fun r _ => r = ordV a n) := by
  (refine callsV_of mix Try.func36 c_sOrderOf ?_; simp only [↓vsd, vsn, gW, qd, qv, ev, pick, argE, List.map_cons, List.map_nil, Option.map_some, Option.map_none, zipE, List.cons_append, List.nil_append, ne_eq, eq_self, forall_const, implies_true, if_true, if_false, reduceIte, List.cons.injEq, reduceCtorEq, Nat.reduceEqDiff, List.length_nil, List.length_cons, Nat.reduceAdd, Nat.reduceLT, List.set_cons_zero, List.set_cons_succ, ↓us_sOrderOf, r_sOrderOf])
  refine m_call (sl1Row_ok _ _) ?_
  rintro _ w1 hx1 rfl
  by_cases h : IsRow a
  · simp only [↓vsd, vsn, gW, qd, qv, ev, pick, argE, List.map_cons, List.map_nil, Option.map_some, Option.map_none, zipE, List.cons_append, List.nil_append, ne_eq, eq_self, forall_const, implies_true, if_true, if_false, reduceIte, List.cons.injEq, reduceCtorEq, Nat.reduceEqDiff, List.length_nil, List.length_cons, Nat.reduceAdd, Nat.reduceLT, List.set_cons_zero, List.set_cons_succ, ↓us_sOrderOf, r_sOrderOf, h]
    refine m_call (sl1Order_ok a n h (ho h) _) ?_
    rintro _ w2 hx2 rfl
    simp only [↓vsd, vsn, gW, qd, qv, ev, pick, argE, List.map_cons, List.map_nil, Option.map_some, Option.map_none, zipE, List.cons_append, List.nil_append, ne_eq, eq_self, forall_const, implies_true, if_true, if_false, reduceIte, List.cons.injEq, reduceCtorEq, Nat.reduceEqDiff, List.length_nil, List.length_cons, Nat.reduceAdd, Nat.reduceLT, List.set_cons_zero, List.set_cons_succ, ↓us_sOrderOf, r_sOrderOf]
    exact ⟨hx1.trans hx2, by rw [ordV, if_pos h]⟩
  · simp only [↓vsd, vsn, gW, qd, qv, ev, pick, argE, List.map_cons, List.map_nil, Option.map_some, Option.map_none, zipE, List.cons_append, List.nil_append, ne_eq, eq_self, forall_const, implies_true, if_true, if_false, reduceIte, List.cons.injEq, reduceCtorEq, Nat.reduceEqDiff, List.length_nil, List.length_cons, Nat.reduceAdd, Nat.reduceLT, List.set_cons_zero, List.set_cons_succ, ↓us_sOrderOf, r_sOrderOf, h]
    exact ⟨hx1, by rw [ordV, if_neg h]⟩
theorem sl1Power_ok (a : List UInt8) (k : Int) (ha : IsRow a) (hk : -1000 ≤ k ∧ k ≤ 1000) (w : World) : Fn 112 [S a, .int .i64 k] w (fun r _ => r = S (powZ a k)) := by
  (refine callsV_of mix Try.func112 c_sl1Power ?_; simp only [↓vsd, vsn, gW, qd, qv, ev, pick, argE, List.map_cons, List.map_nil, Option.map_some, Option.map_none, zipE, List.cons_append, List.nil_append, ne_eq, eq_self, forall_const, implies_true, if_true, if_false, reduceIte, List.cons.injEq, reduceCtorEq, Nat.reduceEqDiff, List.length_nil, List.length_cons, Nat.reduceAdd, Nat.reduceLT, List.set_cons_zero, List.set_cons_succ, ↓us_sl1Power, r_sl1Power])
  have h8 := ha.1
  refine ⟨fun hneg => m_call (sl1Turn_ok a ha _) ?_, fun hpos => ?_⟩
  · rintro _ w2 hx2 rfl
    obtain ⟨q, hq⟩ : ∃ q : Nat, 0 - k = q := ⟨(-k).toNat, by omega⟩
    have htl := turnL_len a
    simp only [↓vsd, vsn, gW, qd, qv, ev, pick, argE, List.map_cons, List.map_nil, Option.map_some, Option.map_none, zipE, List.cons_append, List.nil_append, ne_eq, eq_self, forall_const, implies_true, if_true, if_false, reduceIte, List.cons.injEq, reduceCtorEq, Nat.reduceEqDiff, List.length_nil, List.length_cons, Nat.reduceAdd, Nat.reduceLT, List.set_cons_zero, List.set_cons_succ, ↓us_sl1Power, r_sl1Power, hq, htl]
    refine ⟨inR_i64 (by omega), ?_⟩
    refine m_call (sl1Rounds_ok _ (by omega) _) ?_
    rintro _ w3 hx3 rfl
    simp only [↓vsd, vsn, gW, qd, qv, ev, pick, argE, List.map_cons, List.map_nil, Option.map_some, Option.map_none, zipE, List.cons_append, List.nil_append, ne_eq, eq_self, forall_const, implies_true, if_true, if_false, reduceIte, List.cons.injEq, reduceCtorEq, Nat.reduceEqDiff, List.length_nil, List.length_cons, Nat.reduceAdd, Nat.reduceLT, List.set_cons_zero, List.set_cons_succ, ↓us_sl1Power, r_sl1Power]
    refine m_upto q (fun i vs w' => ∃ m : Nat, m + i = q ∧ vs = [.int .i64 m, S (powL (turnL a) i)] ∧ Ext w w') ⟨q, rfl, by rw [powL, turnL_len], hx2.trans hx3⟩ ?_
    rintro i vs w4 hi ⟨m, hmi, rfl, hx4⟩
    by_cases hlt : i < q
    · have hltI : 0 < (m : Int) := by omega
      have hltJ : ¬ (m : Int) ≤ 0 := by omega
      simp only [↓vsd, vsn, gW, qd, qv, ev, pick, argE, List.map_cons, List.map_nil, Option.map_some, Option.map_none, zipE, List.cons_append, List.nil_append, ne_eq, eq_self, forall_const, implies_true, if_true, if_false, reduceIte, List.cons.injEq, reduceCtorEq, Nat.reduceEqDiff, List.length_nil, List.length_cons, Nat.reduceAdd, Nat.reduceLT, List.set_cons_zero, List.set_cons_succ, ↓us_sl1Power, r_sl1Power, hltI, hltJ]
      refine m_call (sl1Times_ok (powL (turnL a) i) (turnL a) (turnL_row ha) (powL_len _ _) _) ?_
      rintro _ w5 hx5 rfl
      simp only [↓vsd, vsn, gW, qd, qv, ev, pick, argE, List.map_cons, List.map_nil, Option.map_some, Option.map_none, zipE, List.cons_append, List.nil_append, ne_eq, eq_self, forall_const, implies_true, if_true, if_false, reduceIte, List.cons.injEq, reduceCtorEq, Nat.reduceEqDiff, List.length_nil, List.length_cons, Nat.reduceAdd, Nat.reduceLT, List.set_cons_zero, List.set_cons_succ, ↓us_sl1Power, r_sl1Power]
      exact ⟨inR_i64 (by omega), UpTo.next hlt ⟨m - 1, by omega, by rw [show ((m : Int) - 1) = ((m - 1 : Nat) : Int) by omega]; rfl, hx4.trans hx5⟩⟩
    · have hltI : ¬ 0 < (m : Int) := by omega
      obtain rfl : i = q := by omega
      simp only [↓vsd, vsn, gW, qd, qv, ev, pick, argE, List.map_cons, List.map_nil, Option.map_some, Option.map_none, zipE, List.cons_append, List.nil_append, ne_eq, eq_self, forall_const, implies_true, if_true, if_false, reduceIte, List.cons.injEq, reduceCtorEq, Nat.reduceEqDiff, List.length_nil, List.length_cons, Nat.reduceAdd, Nat.reduceLT, List.set_cons_zero, List.set_cons_succ, ↓us_sl1Power, r_sl1Power, hltI]
      exact ⟨hx4, by rw [powZ, if_pos hneg, show (-k).toNat = i by omega]⟩
  · obtain ⟨q, rfl⟩ : ∃ q : Nat, k = q := ⟨k.toNat, by omega⟩
    refine m_call (sl1Rounds_ok _ (by omega) _) ?_
    rintro _ w3 hx3 rfl
    simp only [↓vsd, vsn, gW, qd, qv, ev, pick, argE, List.map_cons, List.map_nil, Option.map_some, Option.map_none, zipE, List.cons_append, List.nil_append, ne_eq, eq_self, forall_const, implies_true, if_true, if_false, reduceIte, List.cons.injEq, reduceCtorEq, Nat.reduceEqDiff, List.length_nil, List.length_cons, Nat.reduceAdd, Nat.reduceLT, List.set_cons_zero, List.set_cons_succ, ↓us_sl1Power, r_sl1Power]
    refine m_upto q (fun i vs w' => ∃ m : Nat, m + i = q ∧ vs = [.int .i64 m, S (powL a i)] ∧ Ext w w') ⟨q, rfl, rfl, hx3⟩ ?_
    rintro i vs w4 hi ⟨m, hmi, rfl, hx4⟩
    by_cases hlt : i < q
    · have hltI : 0 < (m : Int) := by omega
      have hltJ : ¬ (m : Int) ≤ 0 := by omega
      simp only [↓vsd, vsn, gW, qd, qv, ev, pick, argE, List.map_cons, List.map_nil, Option.map_some, Option.map_none, zipE, List.cons_append, List.nil_append, ne_eq, eq_self, forall_const, implies_true, if_true, if_false, reduceIte, List.cons.injEq, reduceCtorEq, Nat.reduceEqDiff, List.length_nil, List.length_cons, Nat.reduceAdd, Nat.reduceLT, List.set_cons_zero, List.set_cons_succ, ↓us_sl1Power, r_sl1Power, hltI, hltJ]
      refine m_call (sl1Times_ok (powL a i) a ha (powL_len _ _) _) ?_
      rintro _ w5 hx5 rfl
      simp only [↓vsd, vsn, gW, qd, qv, ev, pick, argE, List.map_cons, List.map_nil, Option.map_some, Option.map_none, zipE, List.cons_append, List.nil_append, ne_eq, eq_self, forall_const, implies_true, if_true, if_false, reduceIte, List.cons.injEq, reduceCtorEq, Nat.reduceEqDiff, List.length_nil, List.length_cons, Nat.reduceAdd, Nat.reduceLT, List.set_cons_zero, List.set_cons_succ, ↓us_sl1Power, r_sl1Power]
      exact ⟨inR_i64 (by omega), UpTo.next hlt ⟨m - 1, by omega, by rw [show ((m : Int) - 1) = ((m - 1 : Nat) : Int) by omega]; rfl, hx4.trans hx5⟩⟩
    · have hltI : ¬ 0 < (m : Int) := by omega
      obtain rfl : i = q := by omega
      simp only [↓vsd, vsn, gW, qd, qv, ev, pick, argE, List.map_cons, List.map_nil, Option.map_some, Option.map_none, zipE, List.cons_append, List.nil_append, ne_eq, eq_self, forall_const, implies_true, if_true, if_false, reduceIte, List.cons.injEq, reduceCtorEq, Nat.reduceEqDiff, List.length_nil, List.length_cons, Nat.reduceAdd, Nat.reduceLT, List.set_cons_zero, List.set_cons_succ, ↓us_sl1Power, r_sl1Power, hltI]
      exact ⟨hx4, by rw [powZ, if_neg (by omega)]; rfl⟩
theorem sPowerOf_ok (a : List UInt8) (k : Int) (w : World) : Fn 39 [S a, .int .i64 k] w (fun r _ => r = powV a k) := by
  (refine callsV_of mix Try.func39 c_sPowerOf ?_; simp only [↓vsd, vsn, gW, qd, qv, ev, pick, argE, List.map_cons, List.map_nil, Option.map_some, Option.map_none, zipE, List.cons_append, List.nil_append, ne_eq, eq_self, forall_const, implies_true, if_true, if_false, reduceIte, List.cons.injEq, reduceCtorEq, Nat.reduceEqDiff, List.length_nil, List.length_cons, Nat.reduceAdd, Nat.reduceLT, List.set_cons_zero, List.set_cons_succ, ↓us_sPowerOf, r_sPowerOf])
  refine m_call (sl1Row_ok _ _) ?_
  rintro _ w1 hx1 rfl
  by_cases h : IsRow a
  · simp only [↓vsd, vsn, gW, qd, qv, ev, pick, argE, List.map_cons, List.map_nil, Option.map_some, Option.map_none, zipE, List.cons_append, List.nil_append, ne_eq, eq_self, forall_const, implies_true, if_true, if_false, reduceIte, List.cons.injEq, reduceCtorEq, Nat.reduceEqDiff, List.length_nil, List.length_cons, Nat.reduceAdd, Nat.reduceLT, List.set_cons_zero, List.set_cons_succ, ↓us_sPowerOf, r_sPowerOf, h]
    refine m_call (sl1In_ok _ _ _ _) ?_
    rintro _ w2 hx2 rfl
    by_cases hk : -1000 ≤ k ∧ k ≤ 1000
    · have h1 := hk.1
      have h2 := hk.2
      simp only [↓vsd, vsn, gW, qd, qv, ev, pick, argE, List.map_cons, List.map_nil, Option.map_some, Option.map_none, zipE, List.cons_append, List.nil_append, ne_eq, eq_self, forall_const, implies_true, if_true, if_false, reduceIte, List.cons.injEq, reduceCtorEq, Nat.reduceEqDiff, List.length_nil, List.length_cons, Nat.reduceAdd, Nat.reduceLT, List.set_cons_zero, List.set_cons_succ, ↓us_sPowerOf, r_sPowerOf, h1, h2]
      refine m_call (sl1Power_ok a k h hk _) ?_
      rintro _ w3 hx3 rfl
      simp only [↓vsd, vsn, gW, qd, qv, ev, pick, argE, List.map_cons, List.map_nil, Option.map_some, Option.map_none, zipE, List.cons_append, List.nil_append, ne_eq, eq_self, forall_const, implies_true, if_true, if_false, reduceIte, List.cons.injEq, reduceCtorEq, Nat.reduceEqDiff, List.length_nil, List.length_cons, Nat.reduceAdd, Nat.reduceLT, List.set_cons_zero, List.set_cons_succ, ↓us_sPowerOf, r_sPowerOf]
      exact ⟨(hx1.trans hx2).trans hx3, by rw [powV, if_pos ⟨h, h1, h2⟩]⟩
    · simp only [↓vsd, vsn, gW, qd, qv, ev, pick, argE, List.map_cons, List.map_nil, Option.map_some, Option.map_none, zipE, List.cons_append, List.nil_append, ne_eq, eq_self, forall_const, implies_true, if_true, if_false, reduceIte, List.cons.injEq, reduceCtorEq, Nat.reduceEqDiff, List.length_nil, List.length_cons, Nat.reduceAdd, Nat.reduceLT, List.set_cons_zero, List.set_cons_succ, ↓us_sPowerOf, r_sPowerOf, hk]
      exact fun _ => ⟨hx1.trans hx2, by rw [powV, if_neg (fun hh => hk hh.2)]⟩
  · simp only [↓vsd, vsn, gW, qd, qv, ev, pick, argE, List.map_cons, List.map_nil, Option.map_some, Option.map_none, zipE, List.cons_append, List.nil_append, ne_eq, eq_self, forall_const, implies_true, if_true, if_false, reduceIte, List.cons.injEq, reduceCtorEq, Nat.reduceEqDiff, List.length_nil, List.length_cons, Nat.reduceAdd, Nat.reduceLT, List.set_cons_zero, List.set_cons_succ, ↓us_sPowerOf, r_sPowerOf, h]
    exact ⟨hx1, by rw [powV, if_neg (fun hh => h hh.1)]⟩
end Go.Proofs.Ytnocgihggdgkeaa
