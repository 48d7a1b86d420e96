/-
  The cycles of a row, ranks: as program and reference compute them.
  Conditions: none.
-/
import Derived.Test.YtnocgihggdgkeaaD7
import Derived.Test.YtnocgihggdgkeaaPc
import Derived.Test.YtnocgihggdgkeaaVn
set_option linter.unusedSimpArgs false
set_option linter.unusedVariables false
set_option linter.defProp false
namespace Go.Proofs.Ytnocgihggdgkeaa
open Go Go.RowKit
def t_sl1Has_1 : X := (.cond (.t 15) (.seq (.reg [4] (.c (.q 4 [] (.mv (.c (.bool true)))) .nil)) .ret) .skip)
theorem u_sl1Has_1 (P : Program) (k : KT) (e : Env) (w : World) : vcK P t_sl1Has_1 k e w = vcK P (.cond (.t 15) (.seq (.reg [4] (.c (.q 4 [] (.mv (.c (.bool true)))) .nil)) .ret) .skip) k e w := rfl
def t_sl1Has_2 : X := (.seq (.reg [1, 7, 8, 9, 15] (.c (.q 13 [] (.mv (.t 6))) (.c (.q 14 [] (.mv (.t 1))) (.c (.q 15 [] (.bin .eql (.t 13) (.t 14))) .nil)))) t_sl1Has_1)
theorem u_sl1Has_2 (P : Program) (k : KT) (e : Env) (w : World) : vcK P t_sl1Has_2 k e w = vcK P (.seq (.reg [1, 7, 8, 9, 15] (.c (.q 13 [] (.mv (.t 6))) (.c (.q 14 [] (.mv (.t 1))) (.c (.q 15 [] (.bin .eql (.t 13) (.t 14))) .nil)))) t_sl1Has_1) k e w := rfl
def t_sl1Has_3 : X := (.reg [1, 7, 8, 9] (.c (.q 16 [] (.bin .add (.t 9) (.c (.int .i64 1)))) (.c (.q 9 [] (.mv (.t 16))) .nil)))
theorem u_sl1Has_3 (P : Program) (k : KT) (e : Env) (w : World) : vcK P t_sl1Has_3 k e w = vcK P (.reg [1, 7, 8, 9] (.c (.q 16 [] (.bin .add (.t 9) (.c (.int .i64 1)))) (.c (.q 9 [] (.mv (.t 16))) .nil))) k e w := rfl
def t_sl1Has_4 : X := (.seq (.blk 1 (.seq (.reg [1, 6, 7, 8, 9] (.c (.q 11 [] (.ia 1 (.t 7) (.t 9))) (.c (.q 12 [] (.ld (.t 11))) (.c (.q 6 [] (.mv (.t 12))) .nil)))) t_sl1Has_2)) t_sl1Has_3)
theorem u_sl1Has_4 (P : Program) (k : KT) (e : Env) (w : World) : vcK P t_sl1Has_4 k e w = vcK P (.seq (.blk 1 (.seq (.reg [1, 6, 7, 8, 9] (.c (.q 11 [] (.ia 1 (.t 7) (.t 9))) (.c (.q 12 [] (.ld (.t 11))) (.c (.q 6 [] (.mv (.t 12))) .nil)))) t_sl1Has_2)) t_sl1Has_3) k e w := rfl
def t_sl1Has_5 : X := (.seq (.cond (.t 10) .skip (.exit 0)) t_sl1Has_4)
theorem u_sl1Has_5 (P : Program) (k : KT) (e : Env) (w : World) : vcK P t_sl1Has_5 k e w = vcK P (.seq (.cond (.t 10) .skip (.exit 0)) t_sl1Has_4) k e w := rfl
def t_sl1Has_6 : X := (.seq (.reg [1, 7, 8, 9, 10] (.c (.q 10 [] (.bin .lss (.t 9) (.t 8))) .nil)) t_sl1Has_5)
theorem u_sl1Has_6 (P : Program) (k : KT) (e : Env) (w : World) : vcK P t_sl1Has_6 k e w = vcK P (.seq (.reg [1, 7, 8, 9, 10] (.c (.q 10 [] (.bin .lss (.t 9) (.t 8))) .nil)) t_sl1Has_5) k e w := rfl
def t_sl1Has_7 : X := (.blk 0 (.loop [9] [1, 7, 8] t_sl1Has_6))
theorem u_sl1Has_7 (P : Program) (k : KT) (e : Env) (w : World) : vcK P t_sl1Has_7 k e w = vcK P (.blk 0 (.loop [9] [1, 7, 8] t_sl1Has_6)) k e w := rfl
def t_sl1Has_8 : X := (.seq (.reg [4] (.c (.q 4 [] (.mv (.c (.bool false)))) .nil)) .ret)
theorem u_sl1Has_8 (P : Program) (k : KT) (e : Env) (w : World) : vcK P t_sl1Has_8 k e w = vcK P (.seq (.reg [4] (.c (.q 4 [] (.mv (.c (.bool false)))) .nil)) .ret) k e w := rfl
def t_sl1Has_9 : X := (.seq (.seq (.reg [1, 7, 8, 9] (.c (.q 7 [] (.mv (.t 0))) (.c (.q 8 [] (.lens (.t 7))) (.c (.q 9 [] (.mv (.c (.int .i64 0)))) .nil)))) t_sl1Has_7) t_sl1Has_8)
theorem u_sl1Has_9 (P : Program) (k : KT) (e : Env) (w : World) : vcK P t_sl1Has_9 k e w = vcK P (.seq (.seq (.reg [1, 7, 8, 9] (.c (.q 7 [] (.mv (.t 0))) (.c (.q 8 [] (.lens (.t 7))) (.c (.q 9 [] (.mv (.c (.int .i64 0)))) .nil)))) t_sl1Has_7) t_sl1Has_8) k e w := rfl
def x_sl1Has : X := (.seq (.reg [0, 1] (.c (.q 4 [] (.mv (.c (.bool false)))) .nil)) t_sl1Has_9)
theorem u_sl1Has (P : Program) (k : KT) (e : Env) (w : World) : vcK P x_sl1Has k e w = vcK P (.seq (.reg [0, 1] (.c (.q 4 [] (.mv (.c (.bool false)))) .nil)) t_sl1Has_9) k e w := rfl
def r_sl1Has : List XO := [(.mv (.t 4))]
theorem c_sl1Has : convF Try.prog [95, 96, 97, 107, 117, 118, 128, 129, 134, 144, 145, 153, 156, 174, 175, 182] Try.f114 [([0, 1], []), ([1, 7, 8, 9], []), ([9], [1, 7, 8]), ([1, 7, 8, 9, 10], []), ([1, 6, 7, 8, 9], []), ([1, 7, 8, 9, 15], []), ([4], []), ([1, 7, 8, 9], []), ([4], [])] = some (x_sl1Has, r_sl1Has) := by kernel_rfl
def us_sl1Has := And.intro @u_sl1Has (And.intro @u_sl1Has_1 (And.intro @u_sl1Has_2 (And.intro @u_sl1Has_3 (And.intro @u_sl1Has_4 (And.intro @u_sl1Has_5 (And.intro @u_sl1Has_6 (And.intro @u_sl1Has_7 (And.intro @u_sl1Has_8 @u_sl1Has_9))))))))
def t_iCyclesOf_1 : X := (.cond (.t 11) (.seq (.reg [2, 3] (.c (.q 2 [] (.mv (.c (.slice none 0 0)))) (.c (.q 3 [] (.mv (.c (.bool false)))) .nil))) .ret) .skip)
theorem u_iCyclesOf_1 (P : Program) (k : KT) (e : Env) (w : World) : vcK P t_iCyclesOf_1 k e w = vcK P (.cond (.t 11) (.seq (.reg [2, 3] (.c (.q 2 [] (.mv (.c (.slice none 0 0)))) (.c (.q 3 [] (.mv (.c (.bool false)))) .nil))) .ret) .skip) k e w := rfl
def t_iCyclesOf_2 : X := (.cond (.t 27) .skip (.exit 2))
theorem u_iCyclesOf_2 (P : Program) (k : KT) (e : Env) (w : World) : vcK P t_iCyclesOf_2 k e w = vcK P (.cond (.t 27) .skip (.exit 2)) k e w := rfl
def t_iCyclesOf_3 : X := (.reg [0, 4, 5, 7, 8, 17, 18] (.c (.q 36 [] (.mv (.t 7))) (.c (.q 37 [] (.mv (.t 8))) (.c (.q 38 [] (.bin .add (.t 37) (.c (.int .i64 1)))) (.c (.e (some 39) [] (.bsl 3 1 [(.t 38)])) (.c (.e (some 40) [] (.app 50 3 1 8 [(.int .i64 0)] 50 (.t 36) (.t 39))) (.c (.q 7 [] (.mv (.t 40))) .nil)))))))
theorem u_iCyclesOf_3 (P : Program) (k : KT) (e : Env) (w : World) : vcK P t_iCyclesOf_3 k e w = vcK P (.reg [0, 4, 5, 7, 8, 17, 18] (.c (.q 36 [] (.mv (.t 7))) (.c (.q 37 [] (.mv (.t 8))) (.c (.q 38 [] (.bin .add (.t 37) (.c (.int .i64 1)))) (.c (.e (some 39) [] (.bsl 3 1 [(.t 38)])) (.c (.e (some 40) [] (.app 50 3 1 8 [(.int .i64 0)] 50 (.t 36) (.t 39))) (.c (.q 7 [] (.mv (.t 40))) .nil))))))) k e w := rfl
def t_iCyclesOf_4 : X := (.reg [0, 4, 5, 7, 8, 17, 18] (.c (.q 28 [] (.mv (.t 0))) (.c (.q 29 [] (.mv (.t 8))) (.c (.q 30 [] (.idx (.t 28) (.t 29))) (.c (.q 31 [] (.bin .sub (.t 30) (.c (.int .u8 49)))) (.c (.q 32 [] (.cvi .i64 (.t 31))) (.c (.q 8 [] (.mv (.t 32))) .nil)))))))
theorem u_iCyclesOf_4 (P : Program) (k : KT) (e : Env) (w : World) : vcK P t_iCyclesOf_4 k e w = vcK P (.reg [0, 4, 5, 7, 8, 17, 18] (.c (.q 28 [] (.mv (.t 0))) (.c (.q 29 [] (.mv (.t 8))) (.c (.q 30 [] (.idx (.t 28) (.t 29))) (.c (.q 31 [] (.bin .sub (.t 30) (.c (.int .u8 49)))) (.c (.q 32 [] (.cvi .i64 (.t 31))) (.c (.q 8 [] (.mv (.t 32))) .nil))))))) k e w := rfl
def t_iCyclesOf_5 : X := (.seq (.blk 3 (.seq (.reg [0, 4, 5, 7, 8, 17, 18] (.c (.q 33 [] (.mv (.t 5))) (.c (.q 34 [] (.mv (.t 8))) (.c (.q 35 [] (.ia 1 (.t 33) (.t 34))) (.c (.e none [] (.st 1 (.t 35) (.c (.bool true)))) .nil))))) t_iCyclesOf_3)) t_iCyclesOf_4)
theorem u_iCyclesOf_5 (P : Program) (k : KT) (e : Env) (w : World) : vcK P t_iCyclesOf_5 k e w = vcK P (.seq (.blk 3 (.seq (.reg [0, 4, 5, 7, 8, 17, 18] (.c (.q 33 [] (.mv (.t 5))) (.c (.q 34 [] (.mv (.t 8))) (.c (.q 35 [] (.ia 1 (.t 33) (.t 34))) (.c (.e none [] (.st 1 (.t 35) (.c (.bool true)))) .nil))))) t_iCyclesOf_3)) t_iCyclesOf_4) k e w := rfl
def t_iCyclesOf_6 : X := (.seq (.seq (.reg [0, 4, 5, 7, 8, 17, 18, 27] (.c (.q 23 [] (.mv (.t 5))) (.c (.q 24 [] (.mv (.t 8))) (.c (.q 25 [] (.ia 1 (.t 23) (.t 24))) (.c (.q 26 [] (.ld (.t 25))) (.c (.q 27 [] (.not (.t 26))) .nil)))))) t_iCyclesOf_2) t_iCyclesOf_5)
theorem u_iCyclesOf_6 (P : Program) (k : KT) (e : Env) (w : World) : vcK P t_iCyclesOf_6 k e w = vcK P (.seq (.seq (.reg [0, 4, 5, 7, 8, 17, 18, 27] (.c (.q 23 [] (.mv (.t 5))) (.c (.q 24 [] (.mv (.t 8))) (.c (.q 25 [] (.ia 1 (.t 23) (.t 24))) (.c (.q 26 [] (.ld (.t 25))) (.c (.q 27 [] (.not (.t 26))) .nil)))))) t_iCyclesOf_2) t_iCyclesOf_5) k e w := rfl
def t_iCyclesOf_7 : X := (.blk 2 (.loop [7, 8] [0, 4, 5, 17, 18] t_iCyclesOf_6))
theorem u_iCyclesOf_7 (P : Program) (k : KT) (e : Env) (w : World) : vcK P t_iCyclesOf_7 k e w = vcK P (.blk 2 (.loop [7, 8] [0, 4, 5, 17, 18] t_iCyclesOf_6)) k e w := rfl
def t_iCyclesOf_8 : X := (.cond (.t 43) (.reg [0, 4, 5, 17, 18] (.c (.q 44 [] (.mv (.t 4))) (.c (.q 45 [] (.mv (.t 7))) (.c (.e (some 46) [] (.bsl 50 1 [(.t 45)])) (.c (.e (some 47) [] (.app 46 50 1 24 [(.slice none 0 0)] 46 (.t 44) (.t 46))) (.c (.q 4 [] (.mv (.t 47))) .nil)))))) .skip)
theorem u_iCyclesOf_8 (P : Program) (k : KT) (e : Env) (w : World) : vcK P t_iCyclesOf_8 k e w = vcK P (.cond (.t 43) (.reg [0, 4, 5, 17, 18] (.c (.q 44 [] (.mv (.t 4))) (.c (.q 45 [] (.mv (.t 7))) (.c (.e (some 46) [] (.bsl 50 1 [(.t 45)])) (.c (.e (some 47) [] (.app 46 50 1 24 [(.slice none 0 0)] 46 (.t 44) (.t 46))) (.c (.q 4 [] (.mv (.t 47))) .nil)))))) .skip) k e w := rfl
def t_iCyclesOf_9 : X := (.seq (.reg [0, 4, 5, 7, 17, 18, 43] (.c (.q 41 [] (.mv (.t 7))) (.c (.q 42 [] (.lens (.t 41))) (.c (.q 43 [] (.bin .gtr (.t 42) (.c (.int .i64 1)))) .nil)))) t_iCyclesOf_8)
theorem u_iCyclesOf_9 (P : Program) (k : KT) (e : Env) (w : World) : vcK P t_iCyclesOf_9 k e w = vcK P (.seq (.reg [0, 4, 5, 7, 17, 18, 43] (.c (.q 41 [] (.mv (.t 7))) (.c (.q 42 [] (.lens (.t 41))) (.c (.q 43 [] (.bin .gtr (.t 42) (.c (.int .i64 1)))) .nil)))) t_iCyclesOf_8) k e w := rfl
def t_iCyclesOf_10 : X := (.seq (.seq (.reg [0, 4, 5, 7, 8, 17, 18] (.c (.q 22 [] (.mv (.t 6))) (.c (.q 8 [] (.mv (.t 22))) .nil))) t_iCyclesOf_7) t_iCyclesOf_9)
theorem u_iCyclesOf_10 (P : Program) (k : KT) (e : Env) (w : World) : vcK P t_iCyclesOf_10 k e w = vcK P (.seq (.seq (.reg [0, 4, 5, 7, 8, 17, 18] (.c (.q 22 [] (.mv (.t 6))) (.c (.q 8 [] (.mv (.t 22))) .nil))) t_iCyclesOf_7) t_iCyclesOf_9) k e w := rfl
def t_iCyclesOf_11 : X := (.seq (.reg [0, 4, 5, 6, 7, 17, 18] (.c (.e (some 21) [] (.bsl 3 1 [])) (.c (.q 7 [] (.mv (.t 21))) .nil))) t_iCyclesOf_10)
theorem u_iCyclesOf_11 (P : Program) (k : KT) (e : Env) (w : World) : vcK P t_iCyclesOf_11 k e w = vcK P (.seq (.reg [0, 4, 5, 6, 7, 17, 18] (.c (.e (some 21) [] (.bsl 3 1 [])) (.c (.q 7 [] (.mv (.t 21))) .nil))) t_iCyclesOf_10) k e w := rfl
def t_iCyclesOf_12 : X := (.reg [0, 4, 5, 17, 18] (.c (.q 48 [] (.bin .add (.t 18) (.c (.int .i64 1)))) (.c (.q 18 [] (.mv (.t 48))) .nil)))
theorem u_iCyclesOf_12 (P : Program) (k : KT) (e : Env) (w : World) : vcK P t_iCyclesOf_12 k e w = vcK P (.reg [0, 4, 5, 17, 18] (.c (.q 48 [] (.bin .add (.t 18) (.c (.int .i64 1)))) (.c (.q 18 [] (.mv (.t 48))) .nil))) k e w := rfl
def t_iCyclesOf_13 : X := (.seq (.blk 1 (.seq (.reg [0, 4, 5, 6, 17, 18] (.c (.q 20 [] (.mv (.t 18))) (.c (.q 6 [] (.mv (.t 20))) .nil))) t_iCyclesOf_11)) t_iCyclesOf_12)
theorem u_iCyclesOf_13 (P : Program) (k : KT) (e : Env) (w : World) : vcK P t_iCyclesOf_13 k e w = vcK P (.seq (.blk 1 (.seq (.reg [0, 4, 5, 6, 17, 18] (.c (.q 20 [] (.mv (.t 18))) (.c (.q 6 [] (.mv (.t 20))) .nil))) t_iCyclesOf_11)) t_iCyclesOf_12) k e w := rfl
def t_iCyclesOf_14 : X := (.seq (.cond (.t 19) .skip (.exit 0)) t_iCyclesOf_13)
theorem u_iCyclesOf_14 (P : Program) (k : KT) (e : Env) (w : World) : vcK P t_iCyclesOf_14 k e w = vcK P (.seq (.cond (.t 19) .skip (.exit 0)) t_iCyclesOf_13) k e w := rfl
def t_iCyclesOf_15 : X := (.seq (.reg [0, 4, 5, 17, 18, 19] (.c (.q 19 [] (.bin .lss (.t 18) (.t 17))) .nil)) t_iCyclesOf_14)
theorem u_iCyclesOf_15 (P : Program) (k : KT) (e : Env) (w : World) : vcK P t_iCyclesOf_15 k e w = vcK P (.seq (.reg [0, 4, 5, 17, 18, 19] (.c (.q 19 [] (.bin .lss (.t 18) (.t 17))) .nil)) t_iCyclesOf_14) k e w := rfl
def t_iCyclesOf_16 : X := (.blk 0 (.loop [4, 18] [0, 5, 17] t_iCyclesOf_15))
theorem u_iCyclesOf_16 (P : Program) (k : KT) (e : Env) (w : World) : vcK P t_iCyclesOf_16 k e w = vcK P (.blk 0 (.loop [4, 18] [0, 5, 17] t_iCyclesOf_15)) k e w := rfl
def t_iCyclesOf_17 : X := (.seq (.reg [2, 3] (.c (.q 49 [] (.mv (.t 4))) (.c (.q 2 [] (.mv (.t 49))) (.c (.q 3 [] (.mv (.c (.bool true)))) .nil)))) .ret)
theorem u_iCyclesOf_17 (P : Program) (k : KT) (e : Env) (w : World) : vcK P t_iCyclesOf_17 k e w = vcK P (.seq (.reg [2, 3] (.c (.q 49 [] (.mv (.t 4))) (.c (.q 2 [] (.mv (.t 49))) (.c (.q 3 [] (.mv (.c (.bool true)))) .nil)))) .ret) k e w := rfl
def t_iCyclesOf_18 : X := (.seq (.seq (.reg [0, 4, 5, 17, 18] (.c (.q 16 [] (.mv (.t 0))) (.c (.q 17 [] (.len (.t 16))) (.c (.q 18 [] (.mv (.c (.int .i64 0)))) .nil)))) t_iCyclesOf_16) t_iCyclesOf_17)
theorem u_iCyclesOf_18 (P : Program) (k : KT) (e : Env) (w : World) : vcK P t_iCyclesOf_18 k e w = vcK P (.seq (.seq (.reg [0, 4, 5, 17, 18] (.c (.q 16 [] (.mv (.t 0))) (.c (.q 17 [] (.len (.t 16))) (.c (.q 18 [] (.mv (.c (.int .i64 0)))) .nil)))) t_iCyclesOf_16) t_iCyclesOf_17) k e w := rfl
def t_iCyclesOf_19 : X := (.seq (.reg [0, 4, 5] (.c (.q 13 [] (.mv (.t 0))) (.c (.q 14 [] (.len (.t 13))) (.c (.e (some 15) [] (.msl 98 4 1 1 [(.bool false)] (.t 14) (.t 14))) (.c (.q 5 [] (.mv (.t 15))) .nil))))) t_iCyclesOf_18)
theorem u_iCyclesOf_19 (P : Program) (k : KT) (e : Env) (w : World) : vcK P t_iCyclesOf_19 k e w = vcK P (.seq (.reg [0, 4, 5] (.c (.q 13 [] (.mv (.t 0))) (.c (.q 14 [] (.len (.t 13))) (.c (.e (some 15) [] (.msl 98 4 1 1 [(.bool false)] (.t 14) (.t 14))) (.c (.q 5 [] (.mv (.t 15))) .nil))))) t_iCyclesOf_18) k e w := rfl
def t_iCyclesOf_20 : X := (.seq (.reg [0, 4] (.c (.e (some 12) [] (.bsl 50 1 [])) (.c (.q 4 [] (.mv (.t 12))) .nil))) t_iCyclesOf_19)
theorem u_iCyclesOf_20 (P : Program) (k : KT) (e : Env) (w : World) : vcK P t_iCyclesOf_20 k e w = vcK P (.seq (.reg [0, 4] (.c (.e (some 12) [] (.bsl 50 1 [])) (.c (.q 4 [] (.mv (.t 12))) .nil))) t_iCyclesOf_19) k e w := rfl
def t_iCyclesOf_21 : X := (.seq (.seq (.reg [0, 11] (.c (.q 9 [] (.mv (.t 0))) (.c (.e (some 10) [] (.call false 24 [(.t 9)])) (.c (.q 11 [] (.not (.t 10))) .nil)))) t_iCyclesOf_1) t_iCyclesOf_20)
theorem u_iCyclesOf_21 (P : Program) (k : KT) (e : Env) (w : World) : vcK P t_iCyclesOf_21 k e w = vcK P (.seq (.seq (.reg [0, 11] (.c (.q 9 [] (.mv (.t 0))) (.c (.e (some 10) [] (.call false 24 [(.t 9)])) (.c (.q 11 [] (.not (.t 10))) .nil)))) t_iCyclesOf_1) t_iCyclesOf_20) k e w := rfl
def x_iCyclesOf : X := (.seq (.reg [0] (.c (.q 2 [] (.mv (.c (.slice none 0 0)))) (.c (.q 3 [] (.mv (.c (.bool false)))) .nil))) t_iCyclesOf_21)
theorem u_iCyclesOf (P : Program) (k : KT) (e : Env) (w : World) : vcK P x_iCyclesOf k e w = vcK P (.seq (.reg [0] (.c (.q 2 [] (.mv (.c (.slice none 0 0)))) (.c (.q 3 [] (.mv (.c (.bool false)))) .nil))) t_iCyclesOf_21) k e w := rfl
def r_iCyclesOf : List XO := [(.mv (.t 2)), (.mv (.t 3))]
theorem c_iCyclesOf : convF Try.prog [95, 96, 97, 107, 117, 118, 128, 129, 134, 144, 145, 153, 156, 174, 175, 182] Try.f43 [([0], []), ([0, 11], []), ([2, 3], []), ([0, 4], []), ([0, 4, 5], []), ([0, 4, 5, 17, 18], []), ([4, 18], [0, 5, 17]), ([0, 4, 5, 17, 18, 19], []), ([0, 4, 5, 6, 17, 18], []), ([0, 4, 5, 6, 7, 17, 18], []), ([0, 4, 5, 7, 8, 17, 18], []), ([7, 8], [0, 4, 5, 17, 18]), ([0, 4, 5, 7, 8, 17, 18, 27], []), ([0, 4, 5, 7, 8, 17, 18], []), ([0, 4, 5, 7, 8, 17, 18], []), ([0, 4, 5, 7, 8, 17, 18], []), ([0, 4, 5, 7, 17, 18, 43], []), ([0, 4, 5, 17, 18], []), ([0, 4, 5, 17, 18], []), ([2, 3], [])] = some (x_iCyclesOf, r_iCyclesOf) := by kernel_rfl
def us_iCyclesOf := And.intro @u_iCyclesOf (And.intro @u_iCyclesOf_1 (And.intro @u_iCyclesOf_2 (And.intro @u_iCyclesOf_3 (And.intro @u_iCyclesOf_4 (And.intro @u_iCyclesOf_5 (And.intro @u_iCyclesOf_6 (And.intro @u_iCyclesOf_7 (And.intro @u_iCyclesOf_8 (And.intro @u_iCyclesOf_9 (And.intro @u_iCyclesOf_10 (And.intro @u_iCyclesOf_11 (And.intro @u_iCyclesOf_12 (And.intro @u_iCyclesOf_13 (And.intro @u_iCyclesOf_14 (And.intro @u_iCyclesOf_15 (And.intro @u_iCyclesOf_16 (And.intro @u_iCyclesOf_17 (And.intro @u_iCyclesOf_18 (And.intro @u_iCyclesOf_19 (And.intro @u_iCyclesOf_20 @u_iCyclesOf_21))))))))))))))))))))
def t_sCyclesOf_1 : X := (.cond (.t 11) (.seq (.reg [2, 3] (.c (.q 2 [] (.mv (.c (.slice none 0 0)))) (.c (.q 3 [] (.mv (.c (.bool false)))) .nil))) .ret) .skip)
theorem u_sCyclesOf_1 (P : Program) (k : KT) (e : Env) (w : World) : vcK P t_sCyclesOf_1 k e w = vcK P (.cond (.t 11) (.seq (.reg [2, 3] (.c (.q 2 [] (.mv (.c (.slice none 0 0)))) (.c (.q 3 [] (.mv (.c (.bool false)))) .nil))) .ret) .skip) k e w := rfl
def t_sCyclesOf_2 : X := (.cond (.t 15) .skip (.exit 0))
theorem u_sCyclesOf_2 (P : Program) (k : KT) (e : Env) (w : World) : vcK P t_sCyclesOf_2 k e w = vcK P (.cond (.t 15) .skip (.exit 0)) k e w := rfl
def t_sCyclesOf_3 : X := (.cond (.t 27) (.exit 1) .skip)
theorem u_sCyclesOf_3 (P : Program) (k : KT) (e : Env) (w : World) : vcK P t_sCyclesOf_3 k e w = vcK P (.cond (.t 27) (.exit 1) .skip) k e w := rfl
def t_sCyclesOf_4 : X := (.cond (.t 32) .skip (.exit 2))
theorem u_sCyclesOf_4 (P : Program) (k : KT) (e : Env) (w : World) : vcK P t_sCyclesOf_4 k e w = vcK P (.cond (.t 32) .skip (.exit 2)) k e w := rfl
def t_sCyclesOf_5 : X := (.reg [0, 4, 5, 6, 7, 8] (.c (.q 33 [] (.mv (.t 0))) (.c (.q 34 [] (.mv (.t 8))) (.c (.e (some 35) [] (.call false 115 [(.t 33), (.t 34)])) (.c (.q 8 [] (.mv (.t 35))) .nil)))))
theorem u_sCyclesOf_5 (P : Program) (k : KT) (e : Env) (w : World) : vcK P t_sCyclesOf_5 k e w = vcK P (.reg [0, 4, 5, 6, 7, 8] (.c (.q 33 [] (.mv (.t 0))) (.c (.q 34 [] (.mv (.t 8))) (.c (.e (some 35) [] (.call false 115 [(.t 33), (.t 34)])) (.c (.q 8 [] (.mv (.t 35))) .nil))))) k e w := rfl
def t_sCyclesOf_6 : X := (.seq (.blk 3 (.reg [0, 4, 5, 6, 7, 8] (.c (.q 36 [] (.mv (.t 7))) (.c (.q 37 [] (.mv (.t 8))) (.c (.e (some 38) [] (.bsl 3 1 [(.t 37)])) (.c (.e (some 39) [] (.app 50 3 1 8 [(.int .i64 0)] 50 (.t 36) (.t 38))) (.c (.q 7 [] (.mv (.t 39))) .nil))))))) t_sCyclesOf_5)
theorem u_sCyclesOf_6 (P : Program) (k : KT) (e : Env) (w : World) : vcK P t_sCyclesOf_6 k e w = vcK P (.seq (.blk 3 (.reg [0, 4, 5, 6, 7, 8] (.c (.q 36 [] (.mv (.t 7))) (.c (.q 37 [] (.mv (.t 8))) (.c (.e (some 38) [] (.bsl 3 1 [(.t 37)])) (.c (.e (some 39) [] (.app 50 3 1 8 [(.int .i64 0)] 50 (.t 36) (.t 38))) (.c (.q 7 [] (.mv (.t 39))) .nil))))))) t_sCyclesOf_5) k e w := rfl
def t_sCyclesOf_7 : X := (.seq (.seq (.reg [0, 4, 5, 6, 7, 8, 32] (.c (.q 29 [] (.mv (.t 7))) (.c (.q 30 [] (.mv (.t 8))) (.c (.e (some 31) [] (.call false 114 [(.t 29), (.t 30)])) (.c (.q 32 [] (.not (.t 31))) .nil))))) t_sCyclesOf_4) t_sCyclesOf_6)
theorem u_sCyclesOf_7 (P : Program) (k : KT) (e : Env) (w : World) : vcK P t_sCyclesOf_7 k e w = vcK P (.seq (.seq (.reg [0, 4, 5, 6, 7, 8, 32] (.c (.q 29 [] (.mv (.t 7))) (.c (.q 30 [] (.mv (.t 8))) (.c (.e (some 31) [] (.call false 114 [(.t 29), (.t 30)])) (.c (.q 32 [] (.not (.t 31))) .nil))))) t_sCyclesOf_4) t_sCyclesOf_6) k e w := rfl
def t_sCyclesOf_8 : X := (.blk 2 (.loop [7, 8] [0, 4, 5, 6] t_sCyclesOf_7))
theorem u_sCyclesOf_8 (P : Program) (k : KT) (e : Env) (w : World) : vcK P t_sCyclesOf_8 k e w = vcK P (.blk 2 (.loop [7, 8] [0, 4, 5, 6] t_sCyclesOf_7)) k e w := rfl
def t_sCyclesOf_9 : X := (.reg [0, 4, 5, 6] (.c (.q 43 [] (.mv (.t 4))) (.c (.q 44 [] (.mv (.t 7))) (.c (.e (some 45) [] (.bsl 50 1 [(.t 44)])) (.c (.e (some 46) [] (.app 46 50 1 24 [(.slice none 0 0)] 46 (.t 43) (.t 45))) (.c (.q 4 [] (.mv (.t 46))) .nil))))))
theorem u_sCyclesOf_9 (P : Program) (k : KT) (e : Env) (w : World) : vcK P t_sCyclesOf_9 k e w = vcK P (.reg [0, 4, 5, 6] (.c (.q 43 [] (.mv (.t 4))) (.c (.q 44 [] (.mv (.t 7))) (.c (.e (some 45) [] (.bsl 50 1 [(.t 44)])) (.c (.e (some 46) [] (.app 46 50 1 24 [(.slice none 0 0)] 46 (.t 43) (.t 45))) (.c (.q 4 [] (.mv (.t 46))) .nil)))))) k e w := rfl
def t_sCyclesOf_10 : X := (.seq (.reg [0, 4, 5, 6, 7] (.c (.q 40 [] (.mv (.t 5))) (.c (.q 41 [] (.mv (.t 7))) (.c (.e (some 42) [] (.app 50 3 1 8 [(.int .i64 0)] 50 (.t 40) (.t 41))) (.c (.q 5 [] (.mv (.t 42))) .nil))))) t_sCyclesOf_9)
theorem u_sCyclesOf_10 (P : Program) (k : KT) (e : Env) (w : World) : vcK P t_sCyclesOf_10 k e w = vcK P (.seq (.reg [0, 4, 5, 6, 7] (.c (.q 40 [] (.mv (.t 5))) (.c (.q 41 [] (.mv (.t 7))) (.c (.e (some 42) [] (.app 50 3 1 8 [(.int .i64 0)] 50 (.t 40) (.t 41))) (.c (.q 5 [] (.mv (.t 42))) .nil))))) t_sCyclesOf_9) k e w := rfl
def t_sCyclesOf_11 : X := (.seq (.seq (.reg [0, 4, 5, 6, 7, 8] (.c (.q 28 [] (.mv (.t 6))) (.c (.q 8 [] (.mv (.t 28))) .nil))) t_sCyclesOf_8) t_sCyclesOf_10)
theorem u_sCyclesOf_11 (P : Program) (k : KT) (e : Env) (w : World) : vcK P t_sCyclesOf_11 k e w = vcK P (.seq (.seq (.reg [0, 4, 5, 6, 7, 8] (.c (.q 28 [] (.mv (.t 6))) (.c (.q 8 [] (.mv (.t 28))) .nil))) t_sCyclesOf_8) t_sCyclesOf_10) k e w := rfl
def t_sCyclesOf_12 : X := (.seq (.reg [0, 4, 5, 6, 7] (.c (.q 7 [] (.mv (.c (.slice none 0 0)))) .nil)) t_sCyclesOf_11)
theorem u_sCyclesOf_12 (P : Program) (k : KT) (e : Env) (w : World) : vcK P t_sCyclesOf_12 k e w = vcK P (.seq (.reg [0, 4, 5, 6, 7] (.c (.q 7 [] (.mv (.c (.slice none 0 0)))) .nil)) t_sCyclesOf_11) k e w := rfl
def t_sCyclesOf_13 : X := (.reg [0, 4, 5, 6] (.c (.q 16 [] (.mv (.t 6))) (.c (.q 17 [] (.bin .add (.t 16) (.c (.int .i64 1)))) (.c (.q 6 [] (.mv (.t 17))) .nil))))
theorem u_sCyclesOf_13 (P : Program) (k : KT) (e : Env) (w : World) : vcK P t_sCyclesOf_13 k e w = vcK P (.reg [0, 4, 5, 6] (.c (.q 16 [] (.mv (.t 6))) (.c (.q 17 [] (.bin .add (.t 16) (.c (.int .i64 1)))) (.c (.q 6 [] (.mv (.t 17))) .nil)))) k e w := rfl
def t_sCyclesOf_14 : X := (.seq (.blk 1 (.seq (.seq (.reg [0, 4, 5, 6, 27] (.c (.q 18 [] (.mv (.t 5))) (.c (.q 19 [] (.mv (.t 6))) (.c (.e (some 20) [] (.call false 114 [(.t 18), (.t 19)])) (.c (.q 21 [] (.mv (.t 20))) (.c (.q 22 [(21, false)] (.mv (.t 0))) (.c (.q 23 [(21, false)] (.mv (.t 6))) (.c (.e (some 24) [(21, false)] (.call false 115 [(.t 22), (.t 23)])) (.c (.q 25 [(21, false)] (.mv (.t 6))) (.c (.q 26 [(21, false)] (.bin .eql (.t 24) (.t 25))) (.c (.q 27 [] (.pick (.t 21) (.c (.bool true)) (.t 26))) .nil))))))))))) t_sCyclesOf_3) t_sCyclesOf_12)) t_sCyclesOf_13)
theorem u_sCyclesOf_14 (P : Program) (k : KT) (e : Env) (w : World) : vcK P t_sCyclesOf_14 k e w = vcK P (.seq (.blk 1 (.seq (.seq (.reg [0, 4, 5, 6, 27] (.c (.q 18 [] (.mv (.t 5))) (.c (.q 19 [] (.mv (.t 6))) (.c (.e (some 20) [] (.call false 114 [(.t 18), (.t 19)])) (.c (.q 21 [] (.mv (.t 20))) (.c (.q 22 [(21, false)] (.mv (.t 0))) (.c (.q 23 [(21, false)] (.mv (.t 6))) (.c (.e (some 24) [(21, false)] (.call false 115 [(.t 22), (.t 23)])) (.c (.q 25 [(21, false)] (.mv (.t 6))) (.c (.q 26 [(21, false)] (.bin .eql (.t 24) (.t 25))) (.c (.q 27 [] (.pick (.t 21) (.c (.bool true)) (.t 26))) .nil))))))))))) t_sCyclesOf_3) t_sCyclesOf_12)) t_sCyclesOf_13) k e w := rfl
def t_sCyclesOf_15 : X := (.seq (.seq (.reg [0, 4, 5, 6, 15] (.c (.q 12 [] (.mv (.t 6))) (.c (.q 13 [] (.mv (.t 0))) (.c (.q 14 [] (.len (.t 13))) (.c (.q 15 [] (.bin .leq (.t 12) (.t 14))) .nil))))) t_sCyclesOf_2) t_sCyclesOf_14)
theorem u_sCyclesOf_15 (P : Program) (k : KT) (e : Env) (w : World) : vcK P t_sCyclesOf_15 k e w = vcK P (.seq (.seq (.reg [0, 4, 5, 6, 15] (.c (.q 12 [] (.mv (.t 6))) (.c (.q 13 [] (.mv (.t 0))) (.c (.q 14 [] (.len (.t 13))) (.c (.q 15 [] (.bin .leq (.t 12) (.t 14))) .nil))))) t_sCyclesOf_2) t_sCyclesOf_14) k e w := rfl
def t_sCyclesOf_16 : X := (.blk 0 (.loop [4, 5, 6] [0] t_sCyclesOf_15))
theorem u_sCyclesOf_16 (P : Program) (k : KT) (e : Env) (w : World) : vcK P t_sCyclesOf_16 k e w = vcK P (.blk 0 (.loop [4, 5, 6] [0] t_sCyclesOf_15)) k e w := rfl
def t_sCyclesOf_17 : X := (.seq (.reg [2, 3] (.c (.q 47 [] (.mv (.t 4))) (.c (.q 2 [] (.mv (.t 47))) (.c (.q 3 [] (.mv (.c (.bool true)))) .nil)))) .ret)
theorem u_sCyclesOf_17 (P : Program) (k : KT) (e : Env) (w : World) : vcK P t_sCyclesOf_17 k e w = vcK P (.seq (.reg [2, 3] (.c (.q 47 [] (.mv (.t 4))) (.c (.q 2 [] (.mv (.t 47))) (.c (.q 3 [] (.mv (.c (.bool true)))) .nil)))) .ret) k e w := rfl
def t_sCyclesOf_18 : X := (.seq (.seq (.reg [0, 4, 5, 6] (.c (.q 6 [] (.mv (.c (.int .i64 1)))) .nil)) t_sCyclesOf_16) t_sCyclesOf_17)
theorem u_sCyclesOf_18 (P : Program) (k : KT) (e : Env) (w : World) : vcK P t_sCyclesOf_18 k e w = vcK P (.seq (.seq (.reg [0, 4, 5, 6] (.c (.q 6 [] (.mv (.c (.int .i64 1)))) .nil)) t_sCyclesOf_16) t_sCyclesOf_17) k e w := rfl
def t_sCyclesOf_19 : X := (.seq (.reg [0, 4, 5] (.c (.q 5 [] (.mv (.c (.slice none 0 0)))) .nil)) t_sCyclesOf_18)
theorem u_sCyclesOf_19 (P : Program) (k : KT) (e : Env) (w : World) : vcK P t_sCyclesOf_19 k e w = vcK P (.seq (.reg [0, 4, 5] (.c (.q 5 [] (.mv (.c (.slice none 0 0)))) .nil)) t_sCyclesOf_18) k e w := rfl
def t_sCyclesOf_20 : X := (.seq (.reg [0, 4] (.c (.q 4 [] (.mv (.c (.slice none 0 0)))) .nil)) t_sCyclesOf_19)
theorem u_sCyclesOf_20 (P : Program) (k : KT) (e : Env) (w : World) : vcK P t_sCyclesOf_20 k e w = vcK P (.seq (.reg [0, 4] (.c (.q 4 [] (.mv (.c (.slice none 0 0)))) .nil)) t_sCyclesOf_19) k e w := rfl
def t_sCyclesOf_21 : X := (.seq (.seq (.reg [0, 11] (.c (.q 9 [] (.mv (.t 0))) (.c (.e (some 10) [] (.call false 103 [(.t 9)])) (.c (.q 11 [] (.not (.t 10))) .nil)))) t_sCyclesOf_1) t_sCyclesOf_20)
theorem u_sCyclesOf_21 (P : Program) (k : KT) (e : Env) (w : World) : vcK P t_sCyclesOf_21 k e w = vcK P (.seq (.seq (.reg [0, 11] (.c (.q 9 [] (.mv (.t 0))) (.c (.e (some 10) [] (.call false 103 [(.t 9)])) (.c (.q 11 [] (.not (.t 10))) .nil)))) t_sCyclesOf_1) t_sCyclesOf_20) k e w := rfl
def x_sCyclesOf : X := (.seq (.reg [0] (.c (.q 2 [] (.mv (.c (.slice none 0 0)))) (.c (.q 3 [] (.mv (.c (.bool false)))) .nil))) t_sCyclesOf_21)
theorem u_sCyclesOf (P : Program) (k : KT) (e : Env) (w : World) : vcK P x_sCyclesOf k e w = vcK P (.seq (.reg [0] (.c (.q 2 [] (.mv (.c (.slice none 0 0)))) (.c (.q 3 [] (.mv (.c (.bool false)))) .nil))) t_sCyclesOf_21) k e w := rfl
def r_sCyclesOf : List XO := [(.mv (.t 2)), (.mv (.t 3))]
theorem c_sCyclesOf : convF Try.prog [95, 96, 97, 107, 117, 118, 128, 129, 134, 144, 145, 153, 156, 174, 175, 182] Try.f44 [([0], []), ([0, 11], []), ([2, 3], []), ([0, 4], []), ([0, 4, 5], []), ([0, 4, 5, 6], []), ([4, 5, 6], [0]), ([0, 4, 5, 6, 15], []), ([0, 4, 5, 6, 27], []), ([0, 4, 5, 6, 7], []), ([0, 4, 5, 6, 7, 8], []), ([7, 8], [0, 4, 5, 6]), ([0, 4, 5, 6, 7, 8, 32], []), ([0, 4, 5, 6, 7, 8], []), ([0, 4, 5, 6, 7, 8], []), ([0, 4, 5, 6, 7], []), ([0, 4, 5, 6], []), ([0, 4, 5, 6], []), ([2, 3], [])] = some (x_sCyclesOf, r_sCyclesOf) := by kernel_rfl
def us_sCyclesOf := And.intro @u_sCyclesOf (And.intro @u_sCyclesOf_1 (And.intro @u_sCyclesOf_2 (And.intro @u_sCyclesOf_3 (And.intro @u_sCyclesOf_4 (And.intro @u_sCyclesOf_5 (And.intro @u_sCyclesOf_6 (And.intro @u_sCyclesOf_7 (And.intro @u_sCyclesOf_8 (And.intro @u_sCyclesOf_9 (And.intro @u_sCyclesOf_10 (And.intro @u_sCyclesOf_11 (And.intro @u_sCyclesOf_12 (And.intro @u_sCyclesOf_13 (And.intro @u_sCyclesOf_14 (And.intro @u_sCyclesOf_15 (And.intro @u_sCyclesOf_16 (And.intro @u_sCyclesOf_17 (And.intro @u_sCyclesOf_18 (And.intro @u_sCyclesOf_19 (And.intro @u_sCyclesOf_20 @u_sCyclesOf_21))))))))))))))))))))
def t_lsameInts_1 : X := (.cond (.t 10) (.seq (.reg [4] (.c (.q 4 [] (.mv (.c (.bool false)))) .nil)) .ret) .skip)
theorem u_lsameInts_1 (P : Program) (k : KT) (e : Env) (w : World) : vcK P t_lsameInts_1 k e w = vcK P (.cond (.t 10) (.seq (.reg [4] (.c (.q 4 [] (.mv (.c (.bool false)))) .nil)) .ret) .skip) k e w := rfl
def t_lsameInts_2 : X := (.cond (.t 24) (.seq (.reg [4] (.c (.q 4 [] (.mv (.c (.bool false)))) .nil)) .ret) .skip)
theorem u_lsameInts_2 (P : Program) (k : KT) (e : Env) (w : World) : vcK P t_lsameInts_2 k e w = vcK P (.cond (.t 24) (.seq (.reg [4] (.c (.q 4 [] (.mv (.c (.bool false)))) .nil)) .ret) .skip) k e w := rfl
def t_lsameInts_3 : X := (.seq (.drw [0, 1, 12, 13, 24] (.c (.q 16 [] (.mv (.t 0))) (.c (.q 17 [] (.mv (.t 5))) (.c (.q 18 [] (.ia 1 (.t 16) (.t 17))) (.c (.q 19 [] (.ld (.t 18))) (.c (.q 20 [] (.mv (.t 1))) (.c (.q 21 [] (.mv (.t 5))) (.c (.q 22 [] (.ia 1 (.t 20) (.t 21))) (.c (.q 23 [] (.ld (.t 22))) (.c (.q 24 [] (.bin .neq (.t 19) (.t 23))) .nil)))))))))) t_lsameInts_2)
theorem u_lsameInts_3 (P : Program) (k : KT) (e : Env) (w : World) : vcK P t_lsameInts_3 k e w = vcK P (.seq (.drw [0, 1, 12, 13, 24] (.c (.q 16 [] (.mv (.t 0))) (.c (.q 17 [] (.mv (.t 5))) (.c (.q 18 [] (.ia 1 (.t 16) (.t 17))) (.c (.q 19 [] (.ld (.t 18))) (.c (.q 20 [] (.mv (.t 1))) (.c (.q 21 [] (.mv (.t 5))) (.c (.q 22 [] (.ia 1 (.t 20) (.t 21))) (.c (.q 23 [] (.ld (.t 22))) (.c (.q 24 [] (.bin .neq (.t 19) (.t 23))) .nil)))))))))) t_lsameInts_2) k e w := rfl
def t_lsameInts_4 : X := (.reg [0, 1, 12, 13] (.c (.q 25 [] (.bin .add (.t 13) (.c (.int .i64 1)))) (.c (.q 13 [] (.mv (.t 25))) .nil)))
theorem u_lsameInts_4 (P : Program) (k : KT) (e : Env) (w : World) : vcK P t_lsameInts_4 k e w = vcK P (.reg [0, 1, 12, 13] (.c (.q 25 [] (.bin .add (.t 13) (.c (.int .i64 1)))) (.c (.q 13 [] (.mv (.t 25))) .nil))) k e w := rfl
def t_lsameInts_5 : X := (.seq (.blk 1 (.seq (.reg [0, 1, 5, 12, 13] (.c (.q 15 [] (.mv (.t 13))) (.c (.q 5 [] (.mv (.t 15))) .nil))) t_lsameInts_3)) t_lsameInts_4)
theorem u_lsameInts_5 (P : Program) (k : KT) (e : Env) (w : World) : vcK P t_lsameInts_5 k e w = vcK P (.seq (.blk 1 (.seq (.reg [0, 1, 5, 12, 13] (.c (.q 15 [] (.mv (.t 13))) (.c (.q 5 [] (.mv (.t 15))) .nil))) t_lsameInts_3)) t_lsameInts_4) k e w := rfl
def t_lsameInts_6 : X := (.seq (.cond (.t 14) .skip (.exit 0)) t_lsameInts_5)
theorem u_lsameInts_6 (P : Program) (k : KT) (e : Env) (w : World) : vcK P t_lsameInts_6 k e w = vcK P (.seq (.cond (.t 14) .skip (.exit 0)) t_lsameInts_5) k e w := rfl
def t_lsameInts_7 : X := (.seq (.reg [0, 1, 12, 13, 14] (.c (.q 14 [] (.bin .lss (.t 13) (.t 12))) .nil)) t_lsameInts_6)
theorem u_lsameInts_7 (P : Program) (k : KT) (e : Env) (w : World) : vcK P t_lsameInts_7 k e w = vcK P (.seq (.reg [0, 1, 12, 13, 14] (.c (.q 14 [] (.bin .lss (.t 13) (.t 12))) .nil)) t_lsameInts_6) k e w := rfl
def t_lsameInts_8 : X := (.blk 0 (.loop [13] [0, 1, 12] t_lsameInts_7))
theorem u_lsameInts_8 (P : Program) (k : KT) (e : Env) (w : World) : vcK P t_lsameInts_8 k e w = vcK P (.blk 0 (.loop [13] [0, 1, 12] t_lsameInts_7)) k e w := rfl
def t_lsameInts_9 : X := (.seq (.reg [4] (.c (.q 4 [] (.mv (.c (.bool true)))) .nil)) .ret)
theorem u_lsameInts_9 (P : Program) (k : KT) (e : Env) (w : World) : vcK P t_lsameInts_9 k e w = vcK P (.seq (.reg [4] (.c (.q 4 [] (.mv (.c (.bool true)))) .nil)) .ret) k e w := rfl
def t_lsameInts_10 : X := (.seq (.seq (.reg [0, 1, 12, 13] (.c (.q 11 [] (.mv (.t 0))) (.c (.q 12 [] (.lens (.t 11))) (.c (.q 13 [] (.mv (.c (.int .i64 0)))) .nil)))) t_lsameInts_8) t_lsameInts_9)
theorem u_lsameInts_10 (P : Program) (k : KT) (e : Env) (w : World) : vcK P t_lsameInts_10 k e w = vcK P (.seq (.seq (.reg [0, 1, 12, 13] (.c (.q 11 [] (.mv (.t 0))) (.c (.q 12 [] (.lens (.t 11))) (.c (.q 13 [] (.mv (.c (.int .i64 0)))) .nil)))) t_lsameInts_8) t_lsameInts_9) k e w := rfl
def t_lsameInts_11 : X := (.seq (.seq (.reg [0, 1, 10] (.c (.q 6 [] (.mv (.t 0))) (.c (.q 7 [] (.lens (.t 6))) (.c (.q 8 [] (.mv (.t 1))) (.c (.q 9 [] (.lens (.t 8))) (.c (.q 10 [] (.bin .neq (.t 7) (.t 9))) .nil)))))) t_lsameInts_1) t_lsameInts_10)
theorem u_lsameInts_11 (P : Program) (k : KT) (e : Env) (w : World) : vcK P t_lsameInts_11 k e w = vcK P (.seq (.seq (.reg [0, 1, 10] (.c (.q 6 [] (.mv (.t 0))) (.c (.q 7 [] (.lens (.t 6))) (.c (.q 8 [] (.mv (.t 1))) (.c (.q 9 [] (.lens (.t 8))) (.c (.q 10 [] (.bin .neq (.t 7) (.t 9))) .nil)))))) t_lsameInts_1) t_lsameInts_10) k e w := rfl
def x_lsameInts : X := (.seq (.reg [0, 1] (.c (.q 4 [] (.mv (.c (.bool false)))) .nil)) t_lsameInts_11)
theorem u_lsameInts (P : Program) (k : KT) (e : Env) (w : World) : vcK P x_lsameInts k e w = vcK P (.seq (.reg [0, 1] (.c (.q 4 [] (.mv (.c (.bool false)))) .nil)) t_lsameInts_11) k e w := rfl
def r_lsameInts : List XO := [(.mv (.t 4))]
theorem c_lsameInts : convF Try.prog [95, 96, 97, 107, 117, 118, 128, 129, 134, 144, 145, 153, 156, 174, 175, 182] Try.f116 [([0, 1], []), ([0, 1, 10], []), ([4], []), ([0, 1, 12, 13], []), ([13], [0, 1, 12]), ([0, 1, 12, 13, 14], []), ([0, 1, 5, 12, 13], []), ([0, 1, 12, 13, 24], []), ([4], []), ([0, 1, 12, 13], []), ([4], [])] = some (x_lsameInts, r_lsameInts) := by kernel_rfl
def us_lsameInts := And.intro @u_lsameInts (And.intro @u_lsameInts_1 (And.intro @u_lsameInts_2 (And.intro @u_lsameInts_3 (And.intro @u_lsameInts_4 (And.intro @u_lsameInts_5 (And.intro @u_lsameInts_6 (And.intro @u_lsameInts_7 (And.intro @u_lsameInts_8 (And.intro @u_lsameInts_9 (And.intro @u_lsameInts_10 @u_lsameInts_11))))))))))
def t_lsameLists_1 : X := (.cond (.t 10) (.seq (.reg [4] (.c (.q 4 [] (.mv (.c (.bool false)))) .nil)) .ret) .skip)
theorem u_lsameLists_1 (P : Program) (k : KT) (e : Env) (w : World) : vcK P t_lsameLists_1 k e w = vcK P (.cond (.t 10) (.seq (.reg [4] (.c (.q 4 [] (.mv (.c (.bool false)))) .nil)) .ret) .skip) k e w := rfl
def t_lsameLists_2 : X := (.cond (.t 25) (.seq (.reg [4] (.c (.q 4 [] (.mv (.c (.bool false)))) .nil)) .ret) .skip)
theorem u_lsameLists_2 (P : Program) (k : KT) (e : Env) (w : World) : vcK P t_lsameLists_2 k e w = vcK P (.cond (.t 25) (.seq (.reg [4] (.c (.q 4 [] (.mv (.c (.bool false)))) .nil)) .ret) .skip) k e w := rfl
def t_lsameLists_3 : X := (.seq (.drw [0, 1, 12, 13, 25] (.c (.q 16 [] (.mv (.t 0))) (.c (.q 17 [] (.mv (.t 5))) (.c (.q 18 [] (.ia 1 (.t 16) (.t 17))) (.c (.q 19 [] (.ld (.t 18))) (.c (.q 20 [] (.mv (.t 1))) (.c (.q 21 [] (.mv (.t 5))) (.c (.q 22 [] (.ia 1 (.t 20) (.t 21))) (.c (.q 23 [] (.ld (.t 22))) (.c (.e (some 24) [] (.call false 116 [(.t 19), (.t 23)])) (.c (.q 25 [] (.not (.t 24))) .nil))))))))))) t_lsameLists_2)
theorem u_lsameLists_3 (P : Program) (k : KT) (e : Env) (w : World) : vcK P t_lsameLists_3 k e w = vcK P (.seq (.drw [0, 1, 12, 13, 25] (.c (.q 16 [] (.mv (.t 0))) (.c (.q 17 [] (.mv (.t 5))) (.c (.q 18 [] (.ia 1 (.t 16) (.t 17))) (.c (.q 19 [] (.ld (.t 18))) (.c (.q 20 [] (.mv (.t 1))) (.c (.q 21 [] (.mv (.t 5))) (.c (.q 22 [] (.ia 1 (.t 20) (.t 21))) (.c (.q 23 [] (.ld (.t 22))) (.c (.e (some 24) [] (.call false 116 [(.t 19), (.t 23)])) (.c (.q 25 [] (.not (.t 24))) .nil))))))))))) t_lsameLists_2) k e w := rfl
def t_lsameLists_4 : X := (.reg [0, 1, 12, 13] (.c (.q 26 [] (.bin .add (.t 13) (.c (.int .i64 1)))) (.c (.q 13 [] (.mv (.t 26))) .nil)))
theorem u_lsameLists_4 (P : Program) (k : KT) (e : Env) (w : World) : vcK P t_lsameLists_4 k e w = vcK P (.reg [0, 1, 12, 13] (.c (.q 26 [] (.bin .add (.t 13) (.c (.int .i64 1)))) (.c (.q 13 [] (.mv (.t 26))) .nil))) k e w := rfl
def t_lsameLists_5 : X := (.seq (.blk 1 (.seq (.reg [0, 1, 5, 12, 13] (.c (.q 15 [] (.mv (.t 13))) (.c (.q 5 [] (.mv (.t 15))) .nil))) t_lsameLists_3)) t_lsameLists_4)
theorem u_lsameLists_5 (P : Program) (k : KT) (e : Env) (w : World) : vcK P t_lsameLists_5 k e w = vcK P (.seq (.blk 1 (.seq (.reg [0, 1, 5, 12, 13] (.c (.q 15 [] (.mv (.t 13))) (.c (.q 5 [] (.mv (.t 15))) .nil))) t_lsameLists_3)) t_lsameLists_4) k e w := rfl
def t_lsameLists_6 : X := (.seq (.cond (.t 14) .skip (.exit 0)) t_lsameLists_5)
theorem u_lsameLists_6 (P : Program) (k : KT) (e : Env) (w : World) : vcK P t_lsameLists_6 k e w = vcK P (.seq (.cond (.t 14) .skip (.exit 0)) t_lsameLists_5) k e w := rfl
def t_lsameLists_7 : X := (.seq (.reg [0, 1, 12, 13, 14] (.c (.q 14 [] (.bin .lss (.t 13) (.t 12))) .nil)) t_lsameLists_6)
theorem u_lsameLists_7 (P : Program) (k : KT) (e : Env) (w : World) : vcK P t_lsameLists_7 k e w = vcK P (.seq (.reg [0, 1, 12, 13, 14] (.c (.q 14 [] (.bin .lss (.t 13) (.t 12))) .nil)) t_lsameLists_6) k e w := rfl
def t_lsameLists_8 : X := (.blk 0 (.loop [13] [0, 1, 12] t_lsameLists_7))
theorem u_lsameLists_8 (P : Program) (k : KT) (e : Env) (w : World) : vcK P t_lsameLists_8 k e w = vcK P (.blk 0 (.loop [13] [0, 1, 12] t_lsameLists_7)) k e w := rfl
def t_lsameLists_9 : X := (.seq (.reg [4] (.c (.q 4 [] (.mv (.c (.bool true)))) .nil)) .ret)
theorem u_lsameLists_9 (P : Program) (k : KT) (e : Env) (w : World) : vcK P t_lsameLists_9 k e w = vcK P (.seq (.reg [4] (.c (.q 4 [] (.mv (.c (.bool true)))) .nil)) .ret) k e w := rfl
def t_lsameLists_10 : X := (.seq (.seq (.reg [0, 1, 12, 13] (.c (.q 11 [] (.mv (.t 0))) (.c (.q 12 [] (.lens (.t 11))) (.c (.q 13 [] (.mv (.c (.int .i64 0)))) .nil)))) t_lsameLists_8) t_lsameLists_9)
theorem u_lsameLists_10 (P : Program) (k : KT) (e : Env) (w : World) : vcK P t_lsameLists_10 k e w = vcK P (.seq (.seq (.reg [0, 1, 12, 13] (.c (.q 11 [] (.mv (.t 0))) (.c (.q 12 [] (.lens (.t 11))) (.c (.q 13 [] (.mv (.c (.int .i64 0)))) .nil)))) t_lsameLists_8) t_lsameLists_9) k e w := rfl
def t_lsameLists_11 : X := (.seq (.seq (.reg [0, 1, 10] (.c (.q 6 [] (.mv (.t 0))) (.c (.q 7 [] (.lens (.t 6))) (.c (.q 8 [] (.mv (.t 1))) (.c (.q 9 [] (.lens (.t 8))) (.c (.q 10 [] (.bin .neq (.t 7) (.t 9))) .nil)))))) t_lsameLists_1) t_lsameLists_10)
theorem u_lsameLists_11 (P : Program) (k : KT) (e : Env) (w : World) : vcK P t_lsameLists_11 k e w = vcK P (.seq (.seq (.reg [0, 1, 10] (.c (.q 6 [] (.mv (.t 0))) (.c (.q 7 [] (.lens (.t 6))) (.c (.q 8 [] (.mv (.t 1))) (.c (.q 9 [] (.lens (.t 8))) (.c (.q 10 [] (.bin .neq (.t 7) (.t 9))) .nil)))))) t_lsameLists_1) t_lsameLists_10) k e w := rfl
def x_lsameLists : X := (.seq (.reg [0, 1] (.c (.q 4 [] (.mv (.c (.bool false)))) .nil)) t_lsameLists_11)
theorem u_lsameLists (P : Program) (k : KT) (e : Env) (w : World) : vcK P x_lsameLists k e w = vcK P (.seq (.reg [0, 1] (.c (.q 4 [] (.mv (.c (.bool false)))) .nil)) t_lsameLists_11) k e w := rfl
def r_lsameLists : List XO := [(.mv (.t 4))]
theorem c_lsameLists : convF Try.prog [95, 96, 97, 107, 117, 118, 128, 129, 134, 144, 145, 153, 156, 174, 175, 182] Try.f45 [([0, 1], []), ([0, 1, 10], []), ([4], []), ([0, 1, 12, 13], []), ([13], [0, 1, 12]), ([0, 1, 12, 13, 14], []), ([0, 1, 5, 12, 13], []), ([0, 1, 12, 13, 25], []), ([4], []), ([0, 1, 12, 13], []), ([4], [])] = some (x_lsameLists, r_lsameLists) := by kernel_rfl
def us_lsameLists := And.intro @u_lsameLists (And.intro @u_lsameLists_1 (And.intro @u_lsameLists_2 (And.intro @u_lsameLists_3 (And.intro @u_lsameLists_4 (And.intro @u_lsameLists_5 (And.intro @u_lsameLists_6 (And.intro @u_lsameLists_7 (And.intro @u_lsameLists_8 (And.intro @u_lsameLists_9 (And.intro @u_lsameLists_10 @u_lsameLists_11))))))))))

theorem sl1Has_ok (v : Value) (l : List Int) (x : Int) (hl : l.length ≤ 1000000) (w : World) (h : Sq fI 1 w v l) : Fn 114 [v, .int .i64 x] w (fun r _ => r = .bool (decide (x ∈ l))) := by
  (refine callsV_of mix Try.func114 c_sl1Has ?_; simp only [↓vsd, vsn, gW, qd, qv, ev, pick, argE, List.map_cons, List.map_nil, Option.map_some, Option.map_none, zipE, List.cons_append, List.nil_append, ne_eq, eq_self, forall_const, implies_true, if_true, if_false, reduceIte, List.cons.injEq, reduceCtorEq, Nat.reduceEqDiff, List.length_nil, List.length_cons, Nat.reduceAdd, Nat.reduceLT, List.set_cons_zero, List.set_cons_succ, ↓us_sl1Has, r_sl1Has])
  simp only [↓vsd, vsn, gW, qd, qv, ev, pick, argE, List.map_cons, List.map_nil, Option.map_some, Option.map_none, zipE, List.cons_append, List.nil_append, ne_eq, eq_self, forall_const, implies_true, if_true, if_false, reduceIte, List.cons.injEq, reduceCtorEq, Nat.reduceEqDiff, List.length_nil, List.length_cons, Nat.reduceAdd, Nat.reduceLT, List.set_cons_zero, List.set_cons_succ, ↓us_sl1Has, r_sl1Has, h.facts]
  refine m_upto l.length (fun k vs w' => vs = [.int .i64 k] ∧ x ∉ l.take k ∧ Ext w w') ⟨rfl, by simp, Ext.refl _⟩ ?_
  rintro k vs w1 hk ⟨rfl, hall, hx⟩
  have hq := h.ext hx
  by_cases hlt : k < l.length
  · have hltI : (k : Int) < l.length := by omega
    have hltJ : ¬ (l.length : Int) ≤ k := by omega
    simp only [↓vsd, vsn, gW, qd, qv, ev, pick, argE, List.map_cons, List.map_nil, Option.map_some, Option.map_none, zipE, List.cons_append, List.nil_append, ne_eq, eq_self, forall_const, implies_true, if_true, if_false, reduceIte, List.cons.injEq, reduceCtorEq, Nat.reduceEqDiff, List.length_nil, List.length_cons, Nat.reduceAdd, Nat.reduceLT, List.set_cons_zero, List.set_cons_succ, ↓us_sl1Has, r_sl1Has, hq.facts, hltI, hltJ, hq.at1 0 hlt]
    refine ⟨by omega, fun he => ⟨hx, by rw [← he, decide_eq_true (getD_mem 0 hlt)]⟩, fun hne => ⟨inR_i64 (by omega), UpTo.next hlt ⟨rfl, fun hm => ?_, by first | exact hx | exact dr hx⟩⟩⟩
    rcases mem_take (d := 0) hlt hm with h1 | h1
    · exact hall h1
    · exact hne h1.symm
  · obtain rfl : k = l.length := by omega
    have hltI : ¬ (l.length : Int) < l.length := by omega
    simp only [↓vsd, vsn, gW, qd, qv, ev, pick, argE, List.map_cons, List.map_nil, Option.map_some, Option.map_none, zipE, List.cons_append, List.nil_append, ne_eq, eq_self, forall_const, implies_true, if_true, if_false, reduceIte, List.cons.injEq, reduceCtorEq, Nat.reduceEqDiff, List.length_nil, List.length_cons, Nat.reduceAdd, Nat.reduceLT, List.set_cons_zero, List.set_cons_succ, ↓us_sl1Has, r_sl1Has, hq.facts, hltI]
    rw [List.take_length] at hall
    exact ⟨hx, by rw [decide_eq_false hall]⟩
/-- The cycles from the first i places, places counted from 1. -/
def cycGo (a : List UInt8) (i : Nat) : List (List Int) := ((List.range i).filter fun m => isMin a m && decide (2 ≤ per a m)).map fun m => (orbit a m).map fun k => ((k + 1 : Nat) : Int)
def cycI (a : List UInt8) : List (List Int) := (cycL a).map fun c => c.map fun k => ((k + 1 : Nat) : Int)
theorem cycGo_all (a : List UInt8) : cycGo a a.length = cycI a := by
  unfold cycGo cycI cycL mins
  rw [List.map_map, List.filter_filter]
  congr 1
  exact List.filter_congr fun x _ => Bool.and_comm _ _
theorem cycGo_succ (a : List UInt8) (i : Nat) : cycGo a (i + 1) = cycGo a i ++ if isMin a i = true ∧ 2 ≤ per a i then [(orbit a i).map fun k => ((k + 1 : Nat) : Int)] else [] := by
  unfold cycGo
  rw [List.range_succ, List.filter_append, List.map_append]
  congr 1
  by_cases h1 : isMin a i = true <;> by_cases h2 : 2 ≤ per a i <;> simp [h1, h2]
theorem cycGo_len (a : List UInt8) (i : Nat) : (cycGo a i).length ≤ i := by
  unfold cycGo
  rw [List.length_map]
  exact Nat.le_trans (List.length_filter_le _ _) (by simp)
/-- The places that lie in the cycles of the first i. -/
def Sn (a : List UInt8) (i x : Nat) : Prop := ∃ j, j < i ∧ InC a j x
theorem sn_min {a : List UInt8} (hr : IsRow a) {i : Nat} (hi : i < a.length) : Sn a i i ↔ isMin a i = false := by
  constructor
  · rintro ⟨j, hj, hc⟩
    cases h : isMin a i with
    | false => rfl
    | true =>
      have := (isMin_iff hr hi).1 h j (hc.symm hr (by omega))
      omega
  · intro h
    refine Classical.byContradiction fun hn => ?_
    have : isMin a i = true := (isMin_iff hr hi).2 fun y hy => Nat.not_lt.1 fun hlt => hn ⟨y, hlt, hy.symm hr hi⟩
    rw [h] at this
    cases this
theorem sn_closed {a : List UInt8} {i x y : Nat} (h : Sn a i x) (hc : InC a x y) : Sn a i y := by
  obtain ⟨j, hj, hjx⟩ := h
  exact ⟨j, hj, hjx.trans hc⟩
theorem sn_succ {a : List UInt8} (i x : Nat) : Sn a (i + 1) x ↔ Sn a i x ∨ InC a i x := by
  constructor
  · rintro ⟨j, hj, hc⟩
    rcases Nat.lt_succ_iff_lt_or_eq.1 hj with h | rfl
    · exact .inl ⟨j, h, hc⟩
    · exact .inr hc
  · rintro (⟨j, hj, hc⟩ | hc)
    · exact ⟨j, by omega, hc⟩
    · exact ⟨i, by omega, hc⟩
theorem NestP.lt' {α : Type} {f : α → List Value} {E1 E2 : TypeId} {Q : Nat → Prop} {w : World} {o : Value} {ls : List (List α)} (h : NestP f E1 E2 Q w o ls) : NestP f E1 E2 (fun c => Q c ∧ c < w.heap.size) w o ls := by
  obtain ⟨vs, h1, h2, h3, h4⟩ := h
  exact ⟨vs, h1, fun c hc => ⟨h2 c hc, h1.lt c hc⟩, h3, fun i hi => ⟨(h4 i hi).1, fun c hc => ⟨⟨((h4 i hi).2 c hc).1, (h4 i hi).1.lt c hc⟩, ((h4 i hi).2 c hc).2⟩⟩⟩
theorem NestP.off {α : Type} {f : α → List Value} {E1 E2 : TypeId} {Q : Nat → Prop} {w : World} {o : Value} {ls : List (List α)} (h : NestP f E1 E2 Q w o ls) : ∀ c, o.ownBlock = some c → Q c := by
  obtain ⟨vs, h1, h2, h3, h4⟩ := h
  exact h2
theorem orb_take (a : List UInt8) (i m : Nat) : ((List.range (m + 1)).map fun j => ((itb a j i + 1 : Nat) : Int)) = ((List.range m).map fun j => ((itb a j i + 1 : Nat) : Int)) ++ [((itb a m i + 1 : Nat) : Int)] := by
  rw [List.range_succ, List.map_append]; rfl
theorem ext_grow {w0 w w' : World} {r : Option Nat} (hx : Ext w0 w) (hg : w.grownBy w' r) (hr : ∀ c, r = some c → w0.heap.size ≤ c) : Ext w0 w' := by
  have hs := hx.size
  exact Below.trans hx ⟨hg.os, hg.tape, hg.output, hg.size, fun i hi => hg.block i (by omega) fun he => by have := hr i he.symm; omega⟩
theorem sn_after {a : List UInt8} (hr : IsRow a) {i m : Nat} (hi : i < a.length) (hm : m = if isMin a i = true then per a i else 0) (x : Nat) : (Sn a i x ∨ ∃ j, j < m ∧ itb a j i = x) ↔ Sn a (i + 1) x := by
  rw [sn_succ]
  by_cases hmn : isMin a i = true
  · rw [if_pos hmn] at hm
    subst hm
    exact or_congr Iff.rfl ⟨fun ⟨j, _, e⟩ => ⟨j, e⟩, fun h => h.small hr hi⟩
  · rw [if_neg hmn] at hm
    subst hm
    have hs := (sn_min hr hi).2 (by simpa using hmn)
    exact ⟨fun h => h.elim .inl (fun ⟨j, hj, _⟩ => absurd hj (Nat.not_lt_zero j)), fun h => .inl (h.elim id (sn_closed hs))⟩
def cycV (w' : World) (B : Nat) (a : List UInt8) (r : Value) : Prop := ∃ o, r = .tuple ⟨[o, .bool (decide (IsRow a))]⟩ ∧ NestP fI 3 50 (fun c => B ≤ c) w' o (if IsRow a then cycI a else [])
theorem iCyclesOf_ok (a : List UInt8) (w : World) : Fn 43 [S a] w (fun r w' => cycV w' w.heap.size a r) := by
  (refine callsV_of mix Try.func43 c_iCyclesOf ?_; simp only [↓vsd, vsn, gW, qd, qv, ev, pick, argE, List.map_cons, List.map_nil, Option.map_some, Option.map_none, zipE, List.cons_append, List.nil_append, ne_eq, eq_self, forall_const, implies_true, if_true, if_false, reduceIte, List.cons.injEq, reduceCtorEq, Nat.reduceEqDiff, List.length_nil, List.length_cons, Nat.reduceAdd, Nat.reduceLT, List.set_cons_zero, List.set_cons_succ, ↓us_iCyclesOf, r_iCyclesOf])
  refine m_call (iGoodRow_ok _ _) ?_
  rintro _ w1 hx1 rfl
  by_cases h : IsRow a
  · have h8 := h.1
    simp only [↓vsd, vsn, gW, qd, qv, ev, pick, argE, List.map_cons, List.map_nil, Option.map_some, Option.map_none, zipE, List.cons_append, List.nil_append, ne_eq, eq_self, forall_const, implies_true, if_true, if_false, reduceIte, List.cons.injEq, reduceCtorEq, Nat.reduceEqDiff, List.length_nil, List.length_cons, Nat.reduceAdd, Nat.reduceLT, List.set_cons_zero, List.set_cons_succ, ↓us_iCyclesOf, r_iCyclesOf, h]
    refine m_bsl (by simp) ?_
    rintro b2 w2 hb2 hblk2 hx2 hs2
    simp only [↓vsd, vsn, gW, qd, qv, ev, pick, argE, List.map_cons, List.map_nil, Option.map_some, Option.map_none, zipE, List.cons_append, List.nil_append, ne_eq, eq_self, forall_const, implies_true, if_true, if_false, reduceIte, List.cons.injEq, reduceCtorEq, Nat.reduceEqDiff, List.length_nil, List.length_cons, Nat.reduceAdd, Nat.reduceLT, List.set_cons_zero, List.set_cons_succ, ↓us_iCyclesOf, r_iCyclesOf]
    refine m_msl (f := fB) false fB_len rfl (by omega) (by decide) (Nat.le_refl _) ?_
    rintro sv w3 ho3 hB3 hx3
    have hx13 := (hx1.trans hx2).trans hx3
    simp only [↓vsd, vsn, gW, qd, qv, ev, pick, argE, List.map_cons, List.map_nil, Option.map_some, Option.map_none, zipE, List.cons_append, List.nil_append, ne_eq, eq_self, forall_const, implies_true, if_true, if_false, reduceIte, List.cons.injEq, reduceCtorEq, Nat.reduceEqDiff, List.length_nil, List.length_cons, Nat.reduceAdd, Nat.reduceLT, List.set_cons_zero, List.set_cons_succ, ↓us_iCyclesOf, r_iCyclesOf]
    have hb23 := hblk2.ext hx3
    have hsb : ∀ c, sv.ownBlock = some c → b2 < c := fun c hc => by have := (ho3.bound c hc).1; have := hblk2.lt; omega
    refine m_upto a.length (fun i vs w' => ∃ o sl, vs = [o, .int .i64 i] ∧ NestP fI 3 50 (fun c => w.heap.size ≤ c ∧ sv.ownBlock ≠ some c) w' o (cycGo a i) ∧ Own fB 1 4 w2.heap.size w' sv sl ∧ sl.length = a.length ∧ (∀ x, x < a.length → (sl.getD x false = true ↔ Sn a i x)) ∧ Ext w w')
      ⟨_, _, rfl, NestP.empty hb23 ⟨by have := hx1.size; omega, fun e => by have := hsb _ e; omega⟩, ho3, by simp, fun x hx => by simp [Sn, List.getD_eq_getElem?_getD, hx], hx13⟩ ?_
    rintro i vs w4 hi ⟨o, sl, rfl, hn4, ho4, hsl, hsn, hx4⟩
    by_cases hlt : i < a.length
    · have hltI : (i : Int) < a.length := by omega
      have hltJ : ¬ (a.length : Int) ≤ i := by omega
      simp only [↓vsd, vsn, gW, qd, qv, ev, pick, argE, List.map_cons, List.map_nil, Option.map_some, Option.map_none, zipE, List.cons_append, List.nil_append, ne_eq, eq_self, forall_const, implies_true, if_true, if_false, reduceIte, List.cons.injEq, reduceCtorEq, Nat.reduceEqDiff, List.length_nil, List.length_cons, Nat.reduceAdd, Nat.reduceLT, List.set_cons_zero, List.set_cons_succ, ↓us_iCyclesOf, r_iCyclesOf, hltI, hltJ]
      refine m_bsl (by simp) ?_
      rintro b5 w5 hb5 hblk5 hx5 hs5
      simp only [↓vsd, vsn, gW, qd, qv, ev, pick, argE, List.map_cons, List.map_nil, Option.map_some, Option.map_none, zipE, List.cons_append, List.nil_append, ne_eq, eq_self, forall_const, implies_true, if_true, if_false, reduceIte, List.cons.injEq, reduceCtorEq, Nat.reduceEqDiff, List.length_nil, List.length_cons, Nat.reduceAdd, Nat.reduceLT, List.set_cons_zero, List.set_cons_succ, ↓us_iCyclesOf, r_iCyclesOf]
      have hp := per_is h hlt
      have hsv5 : ∀ c, sv.ownBlock = some c → c < w4.heap.size := fun c hc => ho4.lt c hc
      refine m_upto (if isMin a i = true then per a i else 0) (fun m vs w' => ∃ c sl', vs = [c, .int .i64 (itb a m i : Nat)] ∧ w4.heap.size ≤ w'.heap.size ∧ Own fI 1 3 w4.heap.size w' c ((List.range m).map fun j => ((itb a j i + 1 : Nat) : Int)) ∧
          NestP fI 3 50 (fun c => (w.heap.size ≤ c ∧ sv.ownBlock ≠ some c) ∧ c < w4.heap.size) w' o (cycGo a i) ∧ Own fB 1 4 w2.heap.size w' sv sl' ∧ sl'.length = a.length ∧ (∀ x, x < a.length → (sl'.getD x false = true ↔ (Sn a i x ∨ ∃ j, j < m ∧ itb a j i = x))) ∧ Ext w w')
        ⟨_, sl, rfl, hx5.size, (Own.empty fI_len hblk5 (by omega)).to rfl, hn4.lt'.ext hx5, ho4.ext hx5, hsl, fun x hx => by rw [hsn x hx]; simp, hx4.trans hx5⟩ ?_
      rintro m vs w6 hm ⟨c, sl', rfl, hw46, hc6, hn6, ho6, hsl6, hsn6, hx6⟩
      have hk : itb a m i < a.length := itb_lt h hlt m
      have hks : itb a m i < sl'.length := by omega
      by_cases hgo : isMin a i = true ∧ m < per a i
      · have hf : sl'.getD (itb a m i) false = false := by
          cases hb : sl'.getD (itb a m i) false with
          | false => rfl
          | true =>
            rcases (hsn6 _ hk).1 hb with h1 | ⟨j, hj, he⟩
            · have := (sn_min h hlt).1 (sn_closed h1 (InC.symm h hlt ⟨m, rfl⟩))
              rw [hgo.1] at this; cases this
            · have := hp.inj h hlt (by omega) hgo.2 he
              omega
        simp only [↓vsd, vsn, gW, qd, qv, ev, pick, argE, List.map_cons, List.map_nil, Option.map_some, Option.map_none, zipE, List.cons_append, List.nil_append, ne_eq, eq_self, forall_const, implies_true, if_true, if_false, reduceIte, List.cons.injEq, reduceCtorEq, Nat.reduceEqDiff, List.length_nil, List.length_cons, Nat.reduceAdd, Nat.reduceLT, List.set_cons_zero, List.set_cons_succ, ↓us_iCyclesOf, r_iCyclesOf, ho6.sq.facts, ho6.sq.at1 false hks, hf]
        refine ⟨by omega, by omega, m_set1 (itb a m i) true ho6 rfl hks rfl fB_one ?_⟩
        rintro w7 ho7 hg7 _
        have hx7 := ho6.grown hx6 (hx1.trans hx2).size hg7
        have hc7 := hc6.off hg7 (fun c' hc' => hc6.away' (hsv5 c' hc'))
        have hn7 := hn6.keep hg7 (fun c' hc' hq => hq.1.2 hc')
        simp only [↓vsd, vsn, gW, qd, qv, ev, pick, argE, List.map_cons, List.map_nil, Option.map_some, Option.map_none, zipE, List.cons_append, List.nil_append, ne_eq, eq_self, forall_const, implies_true, if_true, if_false, reduceIte, List.cons.injEq, reduceCtorEq, Nat.reduceEqDiff, List.length_nil, List.length_cons, Nat.reduceAdd, Nat.reduceLT, List.set_cons_zero, List.set_cons_succ, ↓us_iCyclesOf, r_iCyclesOf]
        refine ⟨inR_i64 (by omega), m_bsl (one_el rfl) ?_⟩
        rintro b8 w8 hb8 hblk8 hx8 hs8
        simp only [↓vsd, vsn, gW, qd, qv, ev, pick, argE, List.map_cons, List.map_nil, Option.map_some, Option.map_none, zipE, List.cons_append, List.nil_append, ne_eq, eq_self, forall_const, implies_true, if_true, if_false, reduceIte, List.cons.injEq, reduceCtorEq, Nat.reduceEqDiff, List.length_nil, List.length_cons, Nat.reduceAdd, Nat.reduceLT, List.set_cons_zero, List.set_cons_succ, ↓us_iCyclesOf, r_iCyclesOf]
        have hs48 : w4.heap.size ≤ w8.heap.size := by
          have h1 := hx8.size; have h2 := hg7.size
          have h3 := hc6.2
          have h4 : w4.heap.size ≤ w6.heap.size := hw46
          omega
        have hmp : m ≤ 8 := by have := hp.2.1; omega
        refine m_app2 (hc7.ext hx8) (Sq.one fI_len hblk8 rfl) fI_one (by decide) (by simp; omega) (by decide) hs48 ?_
        rintro c9 w9 hc9 hg9 hn9
        have hx9 : Ext w w9 := ext_grow (hx7.trans hx8) hg9 (fun c' hc' => by have := ((hc7.ext hx8).bound c' hc').1; have := hx4.size; omega)
        have ho9 := (ho7.ext hx8).off hg9 (fun c' hc' e => by have := hsv5 c' e; have := ((hc7.ext hx8).bound c' hc').1; omega)
        have hn9' := (hn7.ext hx8).keep hg9 (fun c' hc' hq => by have := ((hc7.ext hx8).bound c' hc').1; have := hq.2; omega)
        have hlow := h.low hk
        have e49 : ((a.getD (itb a m i) 0).toNat : Int) - 49 = (itb a (m + 1) i : Nat) := by show _ = ((bell a (itb a m i) : Nat) : Int); unfold bell; omega
        have hb8 := (a.getD (itb a m i) 0).toNat_lt
        have hnx := itb_lt h hlt (m + 1)
        simp only [↓vsd, vsn, gW, qd, qv, ev, pick, argE, List.map_cons, List.map_nil, Option.map_some, Option.map_none, zipE, List.cons_append, List.nil_append, ne_eq, eq_self, forall_const, implies_true, if_true, if_false, reduceIte, List.cons.injEq, reduceCtorEq, Nat.reduceEqDiff, List.length_nil, List.length_cons, Nat.reduceAdd, Nat.reduceLT, List.set_cons_zero, List.set_cons_succ, ↓us_iCyclesOf, r_iCyclesOf, e49]
        have hgs : w4.heap.size ≤ w9.heap.size := by have := hg9.size; omega
        refine ⟨by omega, inR_u8 (by omega), inR_i64 (by omega), UpTo.next (by rw [if_pos hgo.1]; exact hgo.2) ⟨c9, sl'.set (itb a m i) true, rfl, hgs, hc9.to (orb_take a i m).symm, hn9', ho9, by rw [List.length_set]; exact hsl6, fun x hx => ?_, hx9⟩⟩
        rw [getD_set]
        by_cases hxk : itb a m i = x
        · rw [if_pos ⟨hxk, by omega⟩]
          exact ⟨fun _ => .inr ⟨m, by omega, hxk⟩, fun _ => rfl⟩
        · rw [if_neg (fun hh => hxk hh.1), hsn6 x hx]
          refine or_congr Iff.rfl ⟨fun ⟨j, hj, e⟩ => ⟨j, by omega, e⟩, fun ⟨j, hj, e⟩ => ⟨j, ?_, e⟩⟩
          rcases Nat.lt_succ_iff_lt_or_eq.1 hj with h1 | rfl
          · exact h1
          · exact absurd e hxk
      · have ht : sl'.getD (itb a m i) false = true := by
          refine (hsn6 _ hk).2 ?_
          by_cases hmn : isMin a i = true
          · rw [if_pos hmn] at hm
            have : m = per a i := by
              rcases Nat.lt_or_ge m (per a i) with h1 | h1
              · exact absurd ⟨hmn, h1⟩ hgo
              · omega
            rw [this, hp.2.2.1]
            exact .inr ⟨0, by have := hp.1; omega, rfl⟩
          · rw [if_neg hmn] at hm
            obtain rfl : m = 0 := by omega
            exact .inl ((sn_min h hlt).2 (by simpa using hmn))
        simp only [↓vsd, vsn, gW, qd, qv, ev, pick, argE, List.map_cons, List.map_nil, Option.map_some, Option.map_none, zipE, List.cons_append, List.nil_append, ne_eq, eq_self, forall_const, implies_true, if_true, if_false, reduceIte, List.cons.injEq, reduceCtorEq, Nat.reduceEqDiff, List.length_nil, List.length_cons, Nat.reduceAdd, Nat.reduceLT, List.set_cons_zero, List.set_cons_succ, ↓us_iCyclesOf, r_iCyclesOf, ho6.sq.facts, ho6.sq.at1 false hks, ht, hc6.sq.facts]
        have hmx : m = if isMin a i = true then per a i else 0 := by
          by_cases hmn : isMin a i = true
          · rw [if_pos hmn] at hm ⊢
            rcases Nat.lt_or_ge m (per a i) with h1 | h1
            · exact absurd ⟨hmn, h1⟩ hgo
            · omega
          · rw [if_neg hmn] at hm ⊢; omega
        have hml : ((List.range m).map fun j => ((itb a j i + 1 : Nat) : Int)).length = m := by simp
        rw [hml]
        have hns : ∀ x, x < a.length → (sl'.getD x false = true ↔ Sn a (i + 1) x) := fun x hx => by rw [hsn6 x hx, sn_after h hlt hmx]
        have hcl := cycGo_len a i
        refine ⟨by omega, fun h1 => ?_, fun h1 => ⟨inR_i64 (by omega), UpTo.next hlt ⟨o, sl', rfl, (hn6.mono fun c hc => hc.1).to ?_, ho6, hsl6, hns, hx6⟩⟩⟩
        · have hmn : isMin a i = true := Classical.byContradiction fun hmn => by rw [if_neg hmn] at hmx; omega
          rw [if_pos hmn] at hmx
          obtain ⟨cs, rfl⟩ := hc6.sq.sv
          have hcb : ∀ c', cs.v.ownBlock = some c' → w4.heap.size ≤ c' := fun c' hc' => (hc6.bound c' hc').1
          refine m_bsl (one_el cs.csize) ?_
          rintro b7 w7 hb7 hblk7 hx7 hs7
          simp only [↓vsd, vsn, gW, qd, qv, ev, pick, argE, List.map_cons, List.map_nil, Option.map_some, Option.map_none, zipE, List.cons_append, List.nil_append, ne_eq, eq_self, forall_const, implies_true, if_true, if_false, reduceIte, List.cons.injEq, reduceCtorEq, Nat.reduceEqDiff, List.length_nil, List.length_cons, Nat.reduceAdd, Nat.reduceLT, List.set_cons_zero, List.set_cons_succ, ↓us_iCyclesOf, r_iCyclesOf]
          refine m_push (s := cs) ((hn6.ext hx7).mono fun c hc => hc.1) (Sq.one fSV_len hblk7 rfl) (hc6.zero.ext hx7) (fun c' hc' => ⟨⟨by have := hcb c' hc'; have := hx4.size; omega, fun e => by have := hsv5 c' e; have := hcb c' hc'; omega⟩, fun e => by have := (hn6.off c' e).2; have := hcb c' hc'; omega⟩)
            (fun c' hc' => ⟨by have := (hx6.trans hx7).size; omega, fun e => by have := hsv5 c' e; have := hx7.size; omega⟩) (by omega) rfl (by decide) ?_
          rintro o8 w8 hn8 hg8 _
          have hx8 : Ext w w8 := ext_grow (hx6.trans hx7) hg8 (fun c' hc' => (hn6.off c' hc').1.1)
          have ho8 := (ho6.ext hx7).off hg8 (fun c' hc' => (hn6.off c' hc').1.2)
          simp only [↓vsd, vsn, gW, qd, qv, ev, pick, argE, List.map_cons, List.map_nil, Option.map_some, Option.map_none, zipE, List.cons_append, List.nil_append, ne_eq, eq_self, forall_const, implies_true, if_true, if_false, reduceIte, List.cons.injEq, reduceCtorEq, Nat.reduceEqDiff, List.length_nil, List.length_cons, Nat.reduceAdd, Nat.reduceLT, List.set_cons_zero, List.set_cons_succ, ↓us_iCyclesOf, r_iCyclesOf]
          refine ⟨inR_i64 (by omega), UpTo.next hlt ⟨o8, sl', rfl, hn8.to ?_, ho8, hsl6, hns, hx8⟩⟩
          rw [cycGo_succ, if_pos ⟨hmn, by omega⟩, hmx, orbit, List.map_map]
          rfl
        · rw [cycGo_succ, if_neg (fun hh => by rw [if_pos hh.1] at hmx; omega), List.append_nil]
    · obtain rfl : i = a.length := by omega
      have hltI : ¬ (a.length : Int) < a.length := by omega
      simp only [↓vsd, vsn, gW, qd, qv, ev, pick, argE, List.map_cons, List.map_nil, Option.map_some, Option.map_none, zipE, List.cons_append, List.nil_append, ne_eq, eq_self, forall_const, implies_true, if_true, if_false, reduceIte, List.cons.injEq, reduceCtorEq, Nat.reduceEqDiff, List.length_nil, List.length_cons, Nat.reduceAdd, Nat.reduceLT, List.set_cons_zero, List.set_cons_succ, ↓us_iCyclesOf, r_iCyclesOf, hltI]
      exact ⟨hx4, o, by rw [decide_eq_true h], (hn4.mono fun c hc => hc.1).to (by rw [if_pos h, cycGo_all])⟩
  · simp only [↓vsd, vsn, gW, qd, qv, ev, pick, argE, List.map_cons, List.map_nil, Option.map_some, Option.map_none, zipE, List.cons_append, List.nil_append, ne_eq, eq_self, forall_const, implies_true, if_true, if_false, reduceIte, List.cons.injEq, reduceCtorEq, Nat.reduceEqDiff, List.length_nil, List.length_cons, Nat.reduceAdd, Nat.reduceLT, List.set_cons_zero, List.set_cons_succ, ↓us_iCyclesOf, r_iCyclesOf, h]
    exact ⟨hx1, _, by rw [decide_eq_false h], by rw [if_neg h]; exact NestP.nil⟩
theorem moved_in {a : List UInt8} (hr : IsRow a) {i x : Nat} (hi : i < a.length) (hb : bell a i ≠ i) (h : InC a i x) : bell a x ≠ x := fun e => by
  obtain ⟨k, hk⟩ := h.symm hr hi
  have : ∀ k, itb a k x = x := fun k => by
    induction k with
    | zero => rfl
    | succ k ih => show bell a _ = x; rw [ih, e]
  rw [this] at hk
  rw [hk] at e
  exact hb e
theorem fixed_in {a : List UInt8} {i x : Nat} (hb : bell a i = i) (h : InC a i x) : x = i := by
  obtain ⟨k, hk⟩ := h
  have : ∀ k, itb a k i = i := fun k => by
    induction k with
    | zero => rfl
    | succ k ih => show bell a _ = i; rw [ih, hb]
  rw [this] at hk
  exact hk.symm
theorem sCyclesOf_ok (a : List UInt8) (w : World) : Fn 44 [S a] w (fun r w' => cycV w' w.heap.size a r) := by
  (refine callsV_of mix Try.func44 c_sCyclesOf ?_; simp only [↓vsd, vsn, gW, qd, qv, ev, pick, argE, List.map_cons, List.map_nil, Option.map_some, Option.map_none, zipE, List.cons_append, List.nil_append, ne_eq, eq_self, forall_const, implies_true, if_true, if_false, reduceIte, List.cons.injEq, reduceCtorEq, Nat.reduceEqDiff, List.length_nil, List.length_cons, Nat.reduceAdd, Nat.reduceLT, List.set_cons_zero, List.set_cons_succ, ↓us_sCyclesOf, r_sCyclesOf])
  refine m_call (sl1Row_ok _ _) ?_
  rintro _ w1 hx1 rfl
  by_cases h : IsRow a
  · have h8 := h.1
    simp only [↓vsd, vsn, gW, qd, qv, ev, pick, argE, List.map_cons, List.map_nil, Option.map_some, Option.map_none, zipE, List.cons_append, List.nil_append, ne_eq, eq_self, forall_const, implies_true, if_true, if_false, reduceIte, List.cons.injEq, reduceCtorEq, Nat.reduceEqDiff, List.length_nil, List.length_cons, Nat.reduceAdd, Nat.reduceLT, List.set_cons_zero, List.set_cons_succ, ↓us_sCyclesOf, r_sCyclesOf, h]
    refine m_upto a.length (fun i vs w' => ∃ o sv sL, vs = [o, sv, .int .i64 (i + 1 : Nat)] ∧ NestP fI 3 50 (fun c => w.heap.size ≤ c ∧ sv.ownBlock ≠ some c) w' o (cycGo a i) ∧ Own fI 1 3 w.heap.size w' sv sL ∧ sL.length ≤ 8 * i ∧ (∀ x : Nat, x < a.length → (((x + 1 : Nat) : Int) ∈ sL ↔ Sn a i x ∧ bell a x ≠ x)) ∧ Ext w w')
      ⟨_, _, [], rfl, NestP.nil, Own.nil fI_len, by simp, fun x hx => by simp [Sn], hx1⟩ ?_
    rintro i vs w4 hi ⟨o, sv, sL, rfl, hn4, ho4, hsl, hsn, hx4⟩
    by_cases hlt : i < a.length
    · have hltI : ((i + 1 : Nat) : Int) ≤ a.length := by omega
      have hltJ : ¬ (a.length : Int) < (i + 1 : Nat) := by omega
      have hlow := h.low hlt
      have eb : ((a.getD (i + 1 - 1) 0).toNat : Int) - 48 = (bell a i + 1 : Nat) := by rw [Nat.add_sub_cancel]; unfold bell; omega
      simp only [↓vsd, vsn, gW, qd, qv, ev, pick, argE, List.map_cons, List.map_nil, Option.map_some, Option.map_none, zipE, List.cons_append, List.nil_append, ne_eq, eq_self, forall_const, implies_true, if_true, if_false, reduceIte, List.cons.injEq, reduceCtorEq, Nat.reduceEqDiff, List.length_nil, List.length_cons, Nat.reduceAdd, Nat.reduceLT, List.set_cons_zero, List.set_cons_succ, ↓us_sCyclesOf, r_sCyclesOf, hltI, hltJ]
      refine m_call (sl1Has_ok sv sL (i + 1 : Nat) (by omega) _ ho4.sq) ?_
      rintro _ w5 hx5 rfl
      have hmem := hsn i hlt
      have hp := per_is h hlt
      have hp1 := per_one h hlt
      have hx15 := hx4.trans hx5
      have skip : (Sn a i i ∨ bell a i = i) → cycGo a (i + 1) = cycGo a i ∧ ∀ x, x < a.length → (((x + 1 : Nat) : Int) ∈ sL ↔ Sn a (i + 1) x ∧ bell a x ≠ x) := fun hs => by
        constructor
        · rw [cycGo_succ, if_neg (fun hh => ?_), List.append_nil]
          rcases hs with hs | hs
          · have := (sn_min h hlt).1 hs; rw [hh.1] at this; cases this
          · have := hp1.2 hs; omega
        · intro x hx
          rw [hsn x hx, sn_succ]
          refine and_congr_left fun hmv => ⟨.inl, fun hh => hh.elim id fun hc => ?_⟩
          rcases hs with hs | hs
          · exact sn_closed hs hc
          · rw [fixed_in hs hc] at hmv; exact absurd hs hmv
      by_cases hin : ((i + 1 : Nat) : Int) ∈ sL
      · simp only [↓vsd, vsn, gW, qd, qv, ev, pick, argE, List.map_cons, List.map_nil, Option.map_some, Option.map_none, zipE, List.cons_append, List.nil_append, ne_eq, eq_self, forall_const, implies_true, if_true, if_false, reduceIte, List.cons.injEq, reduceCtorEq, Nat.reduceEqDiff, List.length_nil, List.length_cons, Nat.reduceAdd, Nat.reduceLT, List.set_cons_zero, List.set_cons_succ, ↓us_sCyclesOf, r_sCyclesOf, hin]
        obtain ⟨e1, e2⟩ := skip (.inl (hmem.1 hin).1)
        exact ⟨inR_i64 (by omega), UpTo.next hlt ⟨o, sv, sL, rfl, (hn4.ext hx5).to e1.symm, ho4.ext hx5, by omega, e2, hx15⟩⟩
      · simp only [↓vsd, vsn, gW, qd, qv, ev, pick, argE, List.map_cons, List.map_nil, Option.map_some, Option.map_none, zipE, List.cons_append, List.nil_append, ne_eq, eq_self, forall_const, implies_true, if_true, if_false, reduceIte, List.cons.injEq, reduceCtorEq, Nat.reduceEqDiff, List.length_nil, List.length_cons, Nat.reduceAdd, Nat.reduceLT, List.set_cons_zero, List.set_cons_succ, ↓us_sCyclesOf, r_sCyclesOf, hin]
        refine m_call (sl1At_ok a (i + 1) (by omega) (by rw [Nat.add_sub_cancel]; omega) (by omega) _) ?_
        rintro _ w6 hx6 rfl
        have hx16 := hx15.trans hx6
        by_cases hb : bell a i = i
        · have hbI : ((bell a i + 1 : Nat) : Int) = (i + 1 : Nat) := by rw [hb]
          simp only [↓vsd, vsn, gW, qd, qv, ev, pick, argE, List.map_cons, List.map_nil, Option.map_some, Option.map_none, zipE, List.cons_append, List.nil_append, ne_eq, eq_self, forall_const, implies_true, if_true, if_false, reduceIte, List.cons.injEq, reduceCtorEq, Nat.reduceEqDiff, List.length_nil, List.length_cons, Nat.reduceAdd, Nat.reduceLT, List.set_cons_zero, List.set_cons_succ, ↓us_sCyclesOf, r_sCyclesOf, eb, hbI]
          obtain ⟨e1, e2⟩ := skip (.inr hb)
          exact ⟨inR_i64 (by omega), UpTo.next hlt ⟨o, sv, sL, rfl, ((hn4.ext hx5).ext hx6).to e1.symm, (ho4.ext hx5).ext hx6, by omega, e2, hx16⟩⟩
        · have hbI : ¬ ((bell a i + 1 : Nat) : Int) = (i + 1 : Nat) := by omega
          simp only [↓vsd, vsn, gW, qd, qv, ev, pick, argE, List.map_cons, List.map_nil, Option.map_some, Option.map_none, zipE, List.cons_append, List.nil_append, ne_eq, eq_self, forall_const, implies_true, if_true, if_false, reduceIte, List.cons.injEq, reduceCtorEq, Nat.reduceEqDiff, List.length_nil, List.length_cons, Nat.reduceAdd, Nat.reduceLT, List.set_cons_zero, List.set_cons_succ, ↓us_sCyclesOf, r_sCyclesOf, eb, hbI]
          have hns : ¬ Sn a i i := fun hh => hin (hmem.2 ⟨hh, hb⟩)
          have hmn : isMin a i = true := by
            cases hm : isMin a i with
            | true => rfl
            | false => exact absurd ((sn_min h hlt).2 hm) hns
          have hper : 2 ≤ per a i := by
            have := hp.1
            rcases Nat.lt_or_ge (per a i) 2 with h1 | h1
            · exact absurd (hp1.1 (by omega)) hb
            · exact h1
          have hn6 := ((hn4.ext hx5).ext hx6).lt'
          have ho6 := (ho4.ext hx5).ext hx6
          have hsv6 : ∀ c, sv.ownBlock = some c → c < w6.heap.size := fun c hc => ho6.lt c hc
          refine m_upto (per a i) (fun m vs w' => ∃ c, vs = [c, .int .i64 (itb a m i + 1 : Nat)] ∧ w6.heap.size ≤ w'.heap.size ∧ Own fI 1 3 w6.heap.size w' c ((List.range m).map fun j => ((itb a j i + 1 : Nat) : Int)) ∧
              NestP fI 3 50 (fun c => (w.heap.size ≤ c ∧ sv.ownBlock ≠ some c) ∧ c < w6.heap.size) w' o (cycGo a i) ∧ Own fI 1 3 w.heap.size w' sv sL ∧ Ext w w')
            ⟨_, rfl, Nat.le_refl _, Own.nil fI_len, hn6, ho6, hx16⟩ ?_
          rintro m vs w7 hm ⟨c, rfl, hw67, hc7, hn7, ho7, hx7⟩
          have hp8 := hp.2.1
          have hk := itb_lt h hlt m
          have hml : ((List.range m).map fun j => ((itb a j i + 1 : Nat) : Int)).length = m := by simp
          simp only [↓vsd, vsn, gW, qd, qv, ev, pick, argE, List.map_cons, List.map_nil, Option.map_some, Option.map_none, zipE, List.cons_append, List.nil_append, ne_eq, eq_self, forall_const, implies_true, if_true, if_false, reduceIte, List.cons.injEq, reduceCtorEq, Nat.reduceEqDiff, List.length_nil, List.length_cons, Nat.reduceAdd, Nat.reduceLT, List.set_cons_zero, List.set_cons_succ, ↓us_sCyclesOf, r_sCyclesOf]
          refine m_call (sl1Has_ok c _ (itb a m i + 1 : Nat) (by rw [hml]; omega) _ hc7.sq) ?_
          rintro _ w8 hx8 rfl
          have hmi : ((itb a m i + 1 : Nat) : Int) ∈ ((List.range m).map fun j => ((itb a j i + 1 : Nat) : Int)) ↔ m = per a i := by
            simp only [List.mem_map, List.mem_range]
            constructor
            · rintro ⟨j, hj, e⟩
              rcases Nat.lt_or_ge m (per a i) with h1 | h1
              · have := hp.inj h hlt (by omega) h1 (show itb a j i = itb a m i by omega)
                omega
              · omega
            · intro e
              exact ⟨0, by omega, by rw [e, hp.2.2.1]; rfl⟩
          have hx18 := hx7.trans hx8
          have hc8 := hc7.ext hx8
          have hn8 := hn7.ext hx8
          have ho8 := ho7.ext hx8
          by_cases hgo : m = per a i
          · have hin2 := hmi.2 hgo
            simp only [↓vsd, vsn, gW, qd, qv, ev, pick, argE, List.map_cons, List.map_nil, Option.map_some, Option.map_none, zipE, List.cons_append, List.nil_append, ne_eq, eq_self, forall_const, implies_true, if_true, if_false, reduceIte, List.cons.injEq, reduceCtorEq, Nat.reduceEqDiff, List.length_nil, List.length_cons, Nat.reduceAdd, Nat.reduceLT, List.set_cons_zero, List.set_cons_succ, ↓us_sCyclesOf, r_sCyclesOf, hin2]
            refine m_app2 ho8 hc8.sq fI_one (by decide) (by rw [hml]; omega) (by decide) hx18.size ?_
            rintro sv9 w9 ho9 hg9 hb9
            have hx9 : Ext w w9 := ext_grow hx18 hg9 (fun c' hc' => (ho8.bound c' hc').1)
            have hc9 := hc8.off hg9 (fun c' hc' => hc8.away' (hsv6 c' hc'))
            have hn9 := hn8.keep hg9 (fun c' hc' hq => hq.1.2 hc')
            have hs68 : w6.heap.size ≤ w8.heap.size := by have := hx8.size; omega
            simp only [↓vsd, vsn, gW, qd, qv, ev, pick, argE, List.map_cons, List.map_nil, Option.map_some, Option.map_none, zipE, List.cons_append, List.nil_append, ne_eq, eq_self, forall_const, implies_true, if_true, if_false, reduceIte, List.cons.injEq, reduceCtorEq, Nat.reduceEqDiff, List.length_nil, List.length_cons, Nat.reduceAdd, Nat.reduceLT, List.set_cons_zero, List.set_cons_succ, ↓us_sCyclesOf, r_sCyclesOf]
            obtain ⟨cs, rfl⟩ := hc9.sq.sv
            have hcb : ∀ c', cs.v.ownBlock = some c' → w6.heap.size ≤ c' ∧ c' < w8.heap.size := fun c' hc' => ⟨(hc9.bound c' hc').1, hc8.lt c' hc'⟩
            have hq9 : ∀ c', ((w.heap.size ≤ c' ∧ sv.ownBlock ≠ some c') ∧ c' < w6.heap.size) → (w.heap.size ≤ c' ∧ sv9.ownBlock ≠ some c') := fun c' hq => ⟨hq.1.1, fun e => by
              rcases hb9 c' e with h1 | h1
              · exact hq.1.2 h1
              · have := hq.2; omega⟩
            refine m_bsl (one_el cs.csize) ?_
            rintro b10 w10 hb10 hblk10 hx10 hs10
            simp only [↓vsd, vsn, gW, qd, qv, ev, pick, argE, List.map_cons, List.map_nil, Option.map_some, Option.map_none, zipE, List.cons_append, List.nil_append, ne_eq, eq_self, forall_const, implies_true, if_true, if_false, reduceIte, List.cons.injEq, reduceCtorEq, Nat.reduceEqDiff, List.length_nil, List.length_cons, Nat.reduceAdd, Nat.reduceLT, List.set_cons_zero, List.set_cons_succ, ↓us_sCyclesOf, r_sCyclesOf]
            have hcl := cycGo_len a i
            refine m_push (s := cs) ((hn9.ext hx10).mono hq9) (Sq.one fSV_len hblk10 rfl) (hc9.zero.ext hx10) (fun c' hc' => ⟨⟨by have := (hcb c' hc').1; have := hx16.size; omega, fun e => by
                have h1 := hcb c' hc'
                rcases hb9 c' e with h2 | h2
                · have := hsv6 c' h2; omega
                · omega⟩, fun e => by have := (hn9.off c' e).2; have := (hcb c' hc').1; omega⟩)
              (fun c' hc' => ⟨by have := (hx9.trans hx10).size; omega, fun e => by have := (ho9.ext hx10).lt c' e; omega⟩) (by omega) rfl (by decide) ?_
            rintro o11 w11 hn11 hg11 _
            have hx11 : Ext w w11 := ext_grow (hx9.trans hx10) hg11 (fun c' hc' => (hn9.off c' hc').1.1)
            have ho11 := (ho9.ext hx10).off hg11 (fun c' hc' => (hq9 c' (hn9.off c' hc')).2)
            simp only [↓vsd, vsn, gW, qd, qv, ev, pick, argE, List.map_cons, List.map_nil, Option.map_some, Option.map_none, zipE, List.cons_append, List.nil_append, ne_eq, eq_self, forall_const, implies_true, if_true, if_false, reduceIte, List.cons.injEq, reduceCtorEq, Nat.reduceEqDiff, List.length_nil, List.length_cons, Nat.reduceAdd, Nat.reduceLT, List.set_cons_zero, List.set_cons_succ, ↓us_sCyclesOf, r_sCyclesOf]
            refine ⟨inR_i64 (by omega), UpTo.next hlt ⟨o11, sv9, _, rfl, hn11.to ?_, ho11, ?_, fun x hx => ?_, hx11⟩⟩
            · rw [cycGo_succ, if_pos ⟨hmn, hper⟩, hgo, orbit, List.map_map]
              rfl
            · rw [List.length_append, hml]; omega
            · rw [List.mem_append, hsn x hx, sn_succ, hgo]
              have hor : (((x + 1 : Nat) : Int) ∈ ((List.range (per a i)).map fun j => ((itb a j i + 1 : Nat) : Int))) ↔ InC a i x := by
                simp only [List.mem_map, List.mem_range]
                constructor
                · rintro ⟨j, _, e⟩; exact ⟨j, by omega⟩
                · intro hc
                  obtain ⟨j, hj, e⟩ := hc.small h hlt
                  exact ⟨j, hj, by rw [e]⟩
              rw [hor]
              constructor
              · rintro (⟨h1, h2⟩ | h1)
                · exact ⟨.inl h1, h2⟩
                · exact ⟨.inr h1, moved_in h hlt hb h1⟩
              · rintro ⟨h1 | h1, h2⟩
                · exact .inl ⟨h1, h2⟩
                · exact .inr h1
          · have hin2 : ¬ ((itb a m i + 1 : Nat) : Int) ∈ ((List.range m).map fun j => ((itb a j i + 1 : Nat) : Int)) := fun hh => hgo (hmi.1 hh)
            simp only [↓vsd, vsn, gW, qd, qv, ev, pick, argE, List.map_cons, List.map_nil, Option.map_some, Option.map_none, zipE, List.cons_append, List.nil_append, ne_eq, eq_self, forall_const, implies_true, if_true, if_false, reduceIte, List.cons.injEq, reduceCtorEq, Nat.reduceEqDiff, List.length_nil, List.length_cons, Nat.reduceAdd, Nat.reduceLT, List.set_cons_zero, List.set_cons_succ, ↓us_sCyclesOf, r_sCyclesOf, hin2]
            refine m_bsl (one_el rfl) ?_
            rintro b9 w9 hb9 hblk9 hx9 hs9
            simp only [↓vsd, vsn, gW, qd, qv, ev, pick, argE, List.map_cons, List.map_nil, Option.map_some, Option.map_none, zipE, List.cons_append, List.nil_append, ne_eq, eq_self, forall_const, implies_true, if_true, if_false, reduceIte, List.cons.injEq, reduceCtorEq, Nat.reduceEqDiff, List.length_nil, List.length_cons, Nat.reduceAdd, Nat.reduceLT, List.set_cons_zero, List.set_cons_succ, ↓us_sCyclesOf, r_sCyclesOf]
            refine m_app2 (hc8.ext hx9) (Sq.one fI_len hblk9 rfl) fI_one (by decide) (by rw [hml]; simp; omega) (by decide) (by have := hx8.size; have := hx9.size; omega) ?_
            rintro c10 w10 hc10 hg10 hb10
            have hcb : ∀ c', c.ownBlock = some c' → w6.heap.size ≤ c' := fun c' hc' => (hc8.bound c' hc').1
            have hx10 : Ext w w10 := ext_grow (hx18.trans hx9) hg10 (fun c' hc' => by have := hcb c' hc'; have := hx16.size; omega)
            have hn10 := (hn8.ext hx9).keep hg10 (fun c' hc' hq => by have := hcb c' hc'; have := hq.2; omega)
            have ho10 := (ho8.ext hx9).off hg10 (fun c' hc' e => by have := hcb c' hc'; have := hsv6 c' e; omega)
            simp only [↓vsd, vsn, gW, qd, qv, ev, pick, argE, List.map_cons, List.map_nil, Option.map_some, Option.map_none, zipE, List.cons_append, List.nil_append, ne_eq, eq_self, forall_const, implies_true, if_true, if_false, reduceIte, List.cons.injEq, reduceCtorEq, Nat.reduceEqDiff, List.length_nil, List.length_cons, Nat.reduceAdd, Nat.reduceLT, List.set_cons_zero, List.set_cons_succ, ↓us_sCyclesOf, r_sCyclesOf]
            have hlow2 := h.low hk
            refine m_call (sl1At_ok a (itb a m i + 1) (by omega) (by rw [Nat.add_sub_cancel]; omega) (by omega) _) ?_
            rintro _ w11 hx11 rfl
            have eb2 : ((a.getD (itb a m i + 1 - 1) 0).toNat : Int) - 48 = (itb a (m + 1) i + 1 : Nat) := by rw [Nat.add_sub_cancel]; show _ = ((bell a (itb a m i) + 1 : Nat) : Int); unfold bell; omega
            simp only [↓vsd, vsn, gW, qd, qv, ev, pick, argE, List.map_cons, List.map_nil, Option.map_some, Option.map_none, zipE, List.cons_append, List.nil_append, ne_eq, eq_self, forall_const, implies_true, if_true, if_false, reduceIte, List.cons.injEq, reduceCtorEq, Nat.reduceEqDiff, List.length_nil, List.length_cons, Nat.reduceAdd, Nat.reduceLT, List.set_cons_zero, List.set_cons_succ, ↓us_sCyclesOf, r_sCyclesOf, eb2]
            exact UpTo.next (by omega) ⟨c10, rfl, by have := hx8.size; have := hx9.size; have := hg10.size; have := hx11.size; omega, (hc10.to (orb_take a i m).symm).ext hx11, hn10.ext hx11, ho10.ext hx11, hx10.trans hx11⟩
    · obtain rfl : i = a.length := by omega
      have hltI : ¬ ((a.length + 1 : Nat) : Int) ≤ a.length := by omega
      simp only [↓vsd, vsn, gW, qd, qv, ev, pick, argE, List.map_cons, List.map_nil, Option.map_some, Option.map_none, zipE, List.cons_append, List.nil_append, ne_eq, eq_self, forall_const, implies_true, if_true, if_false, reduceIte, List.cons.injEq, reduceCtorEq, Nat.reduceEqDiff, List.length_nil, List.length_cons, Nat.reduceAdd, Nat.reduceLT, List.set_cons_zero, List.set_cons_succ, ↓us_sCyclesOf, r_sCyclesOf, hltI]
      exact ⟨hx4, o, by rw [decide_eq_true h], (hn4.mono fun c hc => hc.1).to (by rw [if_pos h, cycGo_all])⟩
  · simp only [↓vsd, vsn, gW, qd, qv, ev, pick, argE, List.map_cons, List.map_nil, Option.map_some, Option.map_none, zipE, List.cons_append, List.nil_append, ne_eq, eq_self, forall_const, implies_true, if_true, if_false, reduceIte, List.cons.injEq, reduceCtorEq, Nat.reduceEqDiff, List.length_nil, List.length_cons, Nat.reduceAdd, Nat.reduceLT, List.set_cons_zero, List.set_cons_succ, ↓us_sCyclesOf, r_sCyclesOf, h]
    exact ⟨hx1, _, by rw [decide_eq_false h], by rw [if_neg h]; exact NestP.nil⟩
theorem lsameInts_ok (v1 v2 : Value) (l1 l2 : List Int) (w : World) (h1 : Sq fI 1 w v1 l1) (h2 : Sq fI 1 w v2 l2) (hl : l1.length ≤ 1000000000) : Fn 116 [v1, v2] w (fun v _ => v = .bool (decide (l1 = l2))) := by
  (refine callsV_of mix Try.func116 c_lsameInts ?_; simp only [↓vsd, vsn, gW, qd, qv, ev, pick, argE, List.map_cons, List.map_nil, Option.map_some, Option.map_none, zipE, List.cons_append, List.nil_append, ne_eq, eq_self, forall_const, implies_true, if_true, if_false, reduceIte, List.cons.injEq, reduceCtorEq, Nat.reduceEqDiff, List.length_nil, List.length_cons, Nat.reduceAdd, Nat.reduceLT, List.set_cons_zero, List.set_cons_succ, ↓us_lsameInts, r_lsameInts])
  simp only [↓vsd, vsn, gW, qd, qv, ev, pick, argE, List.map_cons, List.map_nil, Option.map_some, Option.map_none, zipE, List.cons_append, List.nil_append, ne_eq, eq_self, forall_const, implies_true, if_true, if_false, reduceIte, List.cons.injEq, reduceCtorEq, Nat.reduceEqDiff, List.length_nil, List.length_cons, Nat.reduceAdd, Nat.reduceLT, List.set_cons_zero, List.set_cons_succ, ↓us_lsameInts, r_lsameInts, h1.facts, h2.facts]
  refine ⟨fun hne => ⟨Ext.refl _, by have : ¬ l1 = l2 := fun e => hne (by rw [e]); simp [this]⟩, fun he => ?_⟩
  have he : l1.length = l2.length := by omega
  refine m_upto l1.length (fun k vs w' => vs = [.int .i64 k] ∧ l1.take k = l2.take k ∧ Ext w w') ⟨rfl, by simp, Ext.refl _⟩ ?_
  rintro k vs w1 hk ⟨rfl, hall, hx⟩
  have hq1 := h1.ext hx
  have hq2 := h2.ext hx
  by_cases hlt : k < l1.length
  · have hltI : (k : Int) < l1.length := by omega
    have hltJ : ¬ (l1.length : Int) ≤ k := by omega
    have hlt2 : k < l2.length := by omega
    have hltK : (k : Int) < l2.length := by omega
    simp only [↓vsd, vsn, gW, qd, qv, ev, pick, argE, List.map_cons, List.map_nil, Option.map_some, Option.map_none, zipE, List.cons_append, List.nil_append, ne_eq, eq_self, forall_const, implies_true, if_true, if_false, reduceIte, List.cons.injEq, reduceCtorEq, Nat.reduceEqDiff, List.length_nil, List.length_cons, Nat.reduceAdd, Nat.reduceLT, List.set_cons_zero, List.set_cons_succ, ↓us_lsameInts, r_lsameInts, hq1.facts, hq2.facts, hltI, hltJ, hltK, hq1.at1 0 hlt, hq2.at1 0 hlt2]
    refine ⟨by omega, by omega, fun hne => ⟨hx, by simp [ne_at k hne]⟩, fun he => ⟨inR_i64 (by omega), UpTo.next hlt ⟨rfl, eq_take hall hlt hlt2 he, by first | exact hx | exact dr hx⟩⟩⟩
  · obtain rfl : k = l1.length := by omega
    have hltI : ¬ (l1.length : Int) < l1.length := by omega
    simp only [↓vsd, vsn, gW, qd, qv, ev, pick, argE, List.map_cons, List.map_nil, Option.map_some, Option.map_none, zipE, List.cons_append, List.nil_append, ne_eq, eq_self, forall_const, implies_true, if_true, if_false, reduceIte, List.cons.injEq, reduceCtorEq, Nat.reduceEqDiff, List.length_nil, List.length_cons, Nat.reduceAdd, Nat.reduceLT, List.set_cons_zero, List.set_cons_succ, ↓us_lsameInts, r_lsameInts, hq1.facts, hltI]
    exact ⟨hx, by simp [eq_len hall he]⟩
theorem lsameLists_ok (v1 v2 : Value) (l1 l2 : List (List Int)) (w : World) (h1 : Sq2 fI w v1 l1) (h2 : Sq2 fI w v2 l2) (hl : l1.length ≤ 1000000) (hs : ∀ x ∈ l1, x.length ≤ 1000000) : Fn 45 [v1, v2] w (fun v _ => v = .bool (decide (l1 = l2))) := by
  obtain ⟨u1, q1, g1, i1⟩ := h1
  obtain ⟨u2, q2, g2, i2⟩ := h2
  (refine callsV_of mix Try.func45 c_lsameLists ?_; simp only [↓vsd, vsn, gW, qd, qv, ev, pick, argE, List.map_cons, List.map_nil, Option.map_some, Option.map_none, zipE, List.cons_append, List.nil_append, ne_eq, eq_self, forall_const, implies_true, if_true, if_false, reduceIte, List.cons.injEq, reduceCtorEq, Nat.reduceEqDiff, List.length_nil, List.length_cons, Nat.reduceAdd, Nat.reduceLT, List.set_cons_zero, List.set_cons_succ, ↓us_lsameLists, r_lsameLists])
  simp only [↓vsd, vsn, gW, qd, qv, ev, pick, argE, List.map_cons, List.map_nil, Option.map_some, Option.map_none, zipE, List.cons_append, List.nil_append, ne_eq, eq_self, forall_const, implies_true, if_true, if_false, reduceIte, List.cons.injEq, reduceCtorEq, Nat.reduceEqDiff, List.length_nil, List.length_cons, Nat.reduceAdd, Nat.reduceLT, List.set_cons_zero, List.set_cons_succ, ↓us_lsameLists, r_lsameLists, q1.facts, q2.facts, g1, g2]
  refine ⟨fun hne => ⟨Ext.refl _, by have : ¬ l1 = l2 := fun e => hne (by rw [e]); simp [this]⟩, fun he => ?_⟩
  have he : l1.length = l2.length := by omega
  refine m_upto l1.length (fun k vs w' => vs = [.int .i64 k] ∧ l1.take k = l2.take k ∧ Ext w w') ⟨rfl, by simp, Ext.refl _⟩ ?_
  rintro k vs w1 hk ⟨rfl, hall, hx⟩
  have hq1 := q1.ext hx
  have hq2 := q2.ext hx
  by_cases hlt : k < l1.length
  · have hltI : (k : Int) < l1.length := by omega
    have hltJ : ¬ (l1.length : Int) ≤ k := by omega
    have hlt2 : k < l2.length := by omega
    have hltK : (k : Int) < l2.length := by omega
    have hk1 : k < u1.length := by omega
    have hk2 : k < u2.length := by omega
    simp only [↓vsd, vsn, gW, qd, qv, ev, pick, argE, List.map_cons, List.map_nil, Option.map_some, Option.map_none, zipE, List.cons_append, List.nil_append, ne_eq, eq_self, forall_const, implies_true, if_true, if_false, reduceIte, List.cons.injEq, reduceCtorEq, Nat.reduceEqDiff, List.length_nil, List.length_cons, Nat.reduceAdd, Nat.reduceLT, List.set_cons_zero, List.set_cons_succ, ↓us_lsameLists, r_lsameLists, hq1.facts, hq2.facts, g1, g2, hltI, hltJ, hltK, hq1.at1 SV.nil hk1, hq2.at1 SV.nil hk2, fSV_get]
    refine ⟨by omega, by omega, m_call (lsameInts_ok _ _ (l1.getD k []) (l2.getD k []) _ ((i1 k hlt).ext (by first | exact hx | exact dr hx)) ((i2 k hlt2).ext (by first | exact hx | exact dr hx)) (by have := hs _ (getD_mem [] hlt); omega)) ?_⟩
    rintro _ w2 hx2 rfl
    have hx12 : Ext w w2 := by first | exact hx.trans hx2 | exact hx.trans (ud hx2)
    simp only [↓vsd, vsn, gW, qd, qv, ev, pick, argE, List.map_cons, List.map_nil, Option.map_some, Option.map_none, zipE, List.cons_append, List.nil_append, ne_eq, eq_self, forall_const, implies_true, if_true, if_false, reduceIte, List.cons.injEq, reduceCtorEq, Nat.reduceEqDiff, List.length_nil, List.length_cons, Nat.reduceAdd, Nat.reduceLT, List.set_cons_zero, List.set_cons_succ, ↓us_lsameLists, r_lsameLists]
    exact ⟨fun hne => ⟨hx12, by simp [ne_at k hne]⟩, fun he => ⟨inR_i64 (by omega), UpTo.next hlt ⟨rfl, eq_take hall hlt hlt2 he, hx12⟩⟩⟩
  · obtain rfl : k = l1.length := by omega
    have hltI : ¬ (l1.length : Int) < l1.length := by omega
    simp only [↓vsd, vsn, gW, qd, qv, ev, pick, argE, List.map_cons, List.map_nil, Option.map_some, Option.map_none, zipE, List.cons_append, List.nil_append, ne_eq, eq_self, forall_const, implies_true, if_true, if_false, reduceIte, List.cons.injEq, reduceCtorEq, Nat.reduceEqDiff, List.length_nil, List.length_cons, Nat.reduceAdd, Nat.reduceLT, List.set_cons_zero, List.set_cons_succ, ↓us_lsameLists, r_lsameLists, hq1.facts, g1, hltI]
    exact ⟨hx, by simp [eq_len hall he]⟩
end Go.Proofs.Ytnocgihggdgkeaa
