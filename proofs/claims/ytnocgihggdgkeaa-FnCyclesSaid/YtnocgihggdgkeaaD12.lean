/-
  Rows by their rank, ranks, and the draws of FnCycles.
  Conditions: none.
-/
import Derived.Test.YtnocgihggdgkeaaD11
import Derived.Test.YtnocgihggdgkeaaPe
set_option linter.unusedSimpArgs false
set_option linter.unusedVariables false
set_option linter.defProp false
namespace Go.Proofs.Ytnocgihggdgkeaa
open Go Go.RowKit
def t_iRowOf_1 : X := (.cond (.t 18) (.seq (.reg [4, 5] (.c (.q 4 [] (.mv (.s []))) (.c (.q 5 [] (.mv (.c (.bool false)))) .nil))) .ret) .skip)
theorem u_iRowOf_1 (P : Program) (k : KT) (e : Env) (w : World) : vcK P t_iRowOf_1 k e w = vcK P (.cond (.t 18) (.seq (.reg [4, 5] (.c (.q 4 [] (.mv (.s []))) (.c (.q 5 [] (.mv (.c (.bool false)))) .nil))) .ret) .skip) k e w := rfl
def t_iRowOf_2 : X := (.seq (.reg [4, 5] (.c (.q 19 [] (.mv (.t 0))) (.c (.q 20 [] (.mv (.t 1))) (.c (.e (some 21) [] (.call false 92 [(.t 19), (.t 20)])) (.c (.q 4 [] (.mv (.t 21))) (.c (.q 5 [] (.mv (.c (.bool true)))) .nil)))))) .ret)
theorem u_iRowOf_2 (P : Program) (k : KT) (e : Env) (w : World) : vcK P t_iRowOf_2 k e w = vcK P (.seq (.reg [4, 5] (.c (.q 19 [] (.mv (.t 0))) (.c (.q 20 [] (.mv (.t 1))) (.c (.e (some 21) [] (.call false 92 [(.t 19), (.t 20)])) (.c (.q 4 [] (.mv (.t 21))) (.c (.q 5 [] (.mv (.c (.bool true)))) .nil)))))) .ret) k e w := rfl
def t_iRowOf_3 : X := (.seq (.seq (.reg [0, 1, 18] (.c (.q 6 [] (.mv (.t 0))) (.c (.e (some 7) [] (.call false 102 [(.t 6)])) (.c (.q 8 [] (.not (.t 7))) (.c (.q 9 [] (.mv (.t 8))) (.c (.q 10 [(9, false)] (.mv (.t 1))) (.c (.q 11 [(9, false)] (.bin .lss (.t 10) (.c (.int .i64 0)))) (.c (.q 12 [] (.pick (.t 9) (.c (.bool true)) (.t 11))) (.c (.q 13 [] (.mv (.t 12))) (.c (.q 14 [(13, false)] (.mv (.t 1))) (.c (.q 15 [(13, false)] (.mv (.t 0))) (.c (.e (some 16) [(13, false)] (.call false 91 [(.t 15)])) (.c (.q 17 [(13, false)] (.bin .geq (.t 14) (.t 16))) (.c (.q 18 [] (.pick (.t 13) (.c (.bool true)) (.t 17))) .nil)))))))))))))) t_iRowOf_1) t_iRowOf_2)
theorem u_iRowOf_3 (P : Program) (k : KT) (e : Env) (w : World) : vcK P t_iRowOf_3 k e w = vcK P (.seq (.seq (.reg [0, 1, 18] (.c (.q 6 [] (.mv (.t 0))) (.c (.e (some 7) [] (.call false 102 [(.t 6)])) (.c (.q 8 [] (.not (.t 7))) (.c (.q 9 [] (.mv (.t 8))) (.c (.q 10 [(9, false)] (.mv (.t 1))) (.c (.q 11 [(9, false)] (.bin .lss (.t 10) (.c (.int .i64 0)))) (.c (.q 12 [] (.pick (.t 9) (.c (.bool true)) (.t 11))) (.c (.q 13 [] (.mv (.t 12))) (.c (.q 14 [(13, false)] (.mv (.t 1))) (.c (.q 15 [(13, false)] (.mv (.t 0))) (.c (.e (some 16) [(13, false)] (.call false 91 [(.t 15)])) (.c (.q 17 [(13, false)] (.bin .geq (.t 14) (.t 16))) (.c (.q 18 [] (.pick (.t 13) (.c (.bool true)) (.t 17))) .nil)))))))))))))) t_iRowOf_1) t_iRowOf_2) k e w := rfl
def x_iRowOf : X := (.seq (.reg [0, 1] (.c (.q 4 [] (.mv (.s []))) (.c (.q 5 [] (.mv (.c (.bool false)))) .nil))) t_iRowOf_3)
theorem u_iRowOf (P : Program) (k : KT) (e : Env) (w : World) : vcK P x_iRowOf k e w = vcK P (.seq (.reg [0, 1] (.c (.q 4 [] (.mv (.s []))) (.c (.q 5 [] (.mv (.c (.bool false)))) .nil))) t_iRowOf_3) k e w := rfl
def r_iRowOf : List XO := [(.mv (.t 4)), (.mv (.t 5))]
theorem c_iRowOf : convF Try.prog [95, 96, 97, 107, 117, 118, 128, 129, 134, 144, 145, 153, 156, 174, 175, 182] Try.f47 [([0, 1], []), ([0, 1, 18], []), ([4, 5], []), ([4, 5], [])] = some (x_iRowOf, r_iRowOf) := by kernel_rfl
def us_iRowOf := And.intro @u_iRowOf (And.intro @u_iRowOf_1 (And.intro @u_iRowOf_2 @u_iRowOf_3))
def t_irankOf_1 : X := (.cond (.t 17) .skip (.exit 2))
theorem u_irankOf_1 (P : Program) (k : KT) (e : Env) (w : World) : vcK P t_irankOf_1 k e w = vcK P (.cond (.t 17) .skip (.exit 2)) k e w := rfl
def t_irankOf_2 : X := (.cond (.t 26) (.reg [0, 3, 4, 5, 6, 8, 9] (.c (.q 27 [] (.mv (.t 5))) (.c (.q 28 [] (.bin .add (.t 27) (.c (.int .i64 1)))) (.c (.q 5 [] (.mv (.t 28))) .nil)))) .skip)
theorem u_irankOf_2 (P : Program) (k : KT) (e : Env) (w : World) : vcK P t_irankOf_2 k e w = vcK P (.cond (.t 26) (.reg [0, 3, 4, 5, 6, 8, 9] (.c (.q 27 [] (.mv (.t 5))) (.c (.q 28 [] (.bin .add (.t 27) (.c (.int .i64 1)))) (.c (.q 5 [] (.mv (.t 28))) .nil)))) .skip) k e w := rfl
def t_irankOf_3 : X := (.reg [0, 3, 4, 5, 6, 8, 9] (.c (.q 18 [] (.mv (.t 6))) (.c (.q 19 [] (.bin .add (.t 18) (.c (.int .i64 1)))) (.c (.q 6 [] (.mv (.t 19))) .nil))))
theorem u_irankOf_3 (P : Program) (k : KT) (e : Env) (w : World) : vcK P t_irankOf_3 k e w = vcK P (.reg [0, 3, 4, 5, 6, 8, 9] (.c (.q 18 [] (.mv (.t 6))) (.c (.q 19 [] (.bin .add (.t 18) (.c (.int .i64 1)))) (.c (.q 6 [] (.mv (.t 19))) .nil)))) k e w := rfl
def t_irankOf_4 : X := (.seq (.blk 3 (.seq (.drw [0, 3, 4, 5, 6, 8, 9, 26] (.c (.q 20 [] (.mv (.t 0))) (.c (.q 21 [] (.mv (.t 6))) (.c (.q 22 [] (.idx (.t 20) (.t 21))) (.c (.q 23 [] (.mv (.t 0))) (.c (.q 24 [] (.mv (.t 4))) (.c (.q 25 [] (.idx (.t 23) (.t 24))) (.c (.q 26 [] (.bin .lss (.t 22) (.t 25))) .nil)))))))) t_irankOf_2)) t_irankOf_3)
theorem u_irankOf_4 (P : Program) (k : KT) (e : Env) (w : World) : vcK P t_irankOf_4 k e w = vcK P (.seq (.blk 3 (.seq (.drw [0, 3, 4, 5, 6, 8, 9, 26] (.c (.q 20 [] (.mv (.t 0))) (.c (.q 21 [] (.mv (.t 6))) (.c (.q 22 [] (.idx (.t 20) (.t 21))) (.c (.q 23 [] (.mv (.t 0))) (.c (.q 24 [] (.mv (.t 4))) (.c (.q 25 [] (.idx (.t 23) (.t 24))) (.c (.q 26 [] (.bin .lss (.t 22) (.t 25))) .nil)))))))) t_irankOf_2)) t_irankOf_3) k e w := rfl
def t_irankOf_5 : X := (.seq (.seq (.reg [0, 3, 4, 5, 6, 8, 9, 17] (.c (.q 14 [] (.mv (.t 6))) (.c (.q 15 [] (.mv (.t 0))) (.c (.q 16 [] (.len (.t 15))) (.c (.q 17 [] (.bin .lss (.t 14) (.t 16))) .nil))))) t_irankOf_1) t_irankOf_4)
theorem u_irankOf_5 (P : Program) (k : KT) (e : Env) (w : World) : vcK P t_irankOf_5 k e w = vcK P (.seq (.seq (.reg [0, 3, 4, 5, 6, 8, 9, 17] (.c (.q 14 [] (.mv (.t 6))) (.c (.q 15 [] (.mv (.t 0))) (.c (.q 16 [] (.len (.t 15))) (.c (.q 17 [] (.bin .lss (.t 14) (.t 16))) .nil))))) t_irankOf_1) t_irankOf_4) k e w := rfl
def t_irankOf_6 : X := (.blk 2 (.loop [5, 6] [0, 3, 4, 8, 9] t_irankOf_5))
theorem u_irankOf_6 (P : Program) (k : KT) (e : Env) (w : World) : vcK P t_irankOf_6 k e w = vcK P (.blk 2 (.loop [5, 6] [0, 3, 4, 8, 9] t_irankOf_5)) k e w := rfl
def t_irankOf_7 : X := (.reg [0, 3, 8, 9] (.c (.q 29 [] (.mv (.t 3))) (.c (.q 30 [] (.mv (.t 5))) (.c (.q 31 [] (.mv (.t 0))) (.c (.q 32 [] (.len (.t 31))) (.c (.q 33 [] (.bin .sub (.t 32) (.c (.int .i64 1)))) (.c (.q 34 [] (.mv (.t 4))) (.c (.q 35 [] (.bin .sub (.t 33) (.t 34))) (.c (.e (some 36) [] (.call false 91 [(.t 35)])) (.c (.q 37 [] (.bin .mul (.t 30) (.t 36))) (.c (.q 38 [] (.bin .add (.t 29) (.t 37))) (.c (.q 3 [] (.mv (.t 38))) .nil))))))))))))
theorem u_irankOf_7 (P : Program) (k : KT) (e : Env) (w : World) : vcK P t_irankOf_7 k e w = vcK P (.reg [0, 3, 8, 9] (.c (.q 29 [] (.mv (.t 3))) (.c (.q 30 [] (.mv (.t 5))) (.c (.q 31 [] (.mv (.t 0))) (.c (.q 32 [] (.len (.t 31))) (.c (.q 33 [] (.bin .sub (.t 32) (.c (.int .i64 1)))) (.c (.q 34 [] (.mv (.t 4))) (.c (.q 35 [] (.bin .sub (.t 33) (.t 34))) (.c (.e (some 36) [] (.call false 91 [(.t 35)])) (.c (.q 37 [] (.bin .mul (.t 30) (.t 36))) (.c (.q 38 [] (.bin .add (.t 29) (.t 37))) (.c (.q 3 [] (.mv (.t 38))) .nil)))))))))))) k e w := rfl
def t_irankOf_8 : X := (.seq (.seq (.reg [0, 3, 4, 5, 6, 8, 9] (.c (.q 12 [] (.mv (.t 4))) (.c (.q 13 [] (.bin .add (.t 12) (.c (.int .i64 1)))) (.c (.q 6 [] (.mv (.t 13))) .nil)))) t_irankOf_6) t_irankOf_7)
theorem u_irankOf_8 (P : Program) (k : KT) (e : Env) (w : World) : vcK P t_irankOf_8 k e w = vcK P (.seq (.seq (.reg [0, 3, 4, 5, 6, 8, 9] (.c (.q 12 [] (.mv (.t 4))) (.c (.q 13 [] (.bin .add (.t 12) (.c (.int .i64 1)))) (.c (.q 6 [] (.mv (.t 13))) .nil)))) t_irankOf_6) t_irankOf_7) k e w := rfl
def t_irankOf_9 : X := (.seq (.reg [0, 3, 4, 5, 8, 9] (.c (.q 5 [] (.mv (.c (.int .i64 0)))) .nil)) t_irankOf_8)
theorem u_irankOf_9 (P : Program) (k : KT) (e : Env) (w : World) : vcK P t_irankOf_9 k e w = vcK P (.seq (.reg [0, 3, 4, 5, 8, 9] (.c (.q 5 [] (.mv (.c (.int .i64 0)))) .nil)) t_irankOf_8) k e w := rfl
def t_irankOf_10 : X := (.reg [0, 3, 8, 9] (.c (.q 39 [] (.bin .add (.t 9) (.c (.int .i64 1)))) (.c (.q 9 [] (.mv (.t 39))) .nil)))
theorem u_irankOf_10 (P : Program) (k : KT) (e : Env) (w : World) : vcK P t_irankOf_10 k e w = vcK P (.reg [0, 3, 8, 9] (.c (.q 39 [] (.bin .add (.t 9) (.c (.int .i64 1)))) (.c (.q 9 [] (.mv (.t 39))) .nil))) k e w := rfl
def t_irankOf_11 : X := (.seq (.blk 1 (.seq (.reg [0, 3, 4, 8, 9] (.c (.q 11 [] (.mv (.t 9))) (.c (.q 4 [] (.mv (.t 11))) .nil))) t_irankOf_9)) t_irankOf_10)
theorem u_irankOf_11 (P : Program) (k : KT) (e : Env) (w : World) : vcK P t_irankOf_11 k e w = vcK P (.seq (.blk 1 (.seq (.reg [0, 3, 4, 8, 9] (.c (.q 11 [] (.mv (.t 9))) (.c (.q 4 [] (.mv (.t 11))) .nil))) t_irankOf_9)) t_irankOf_10) k e w := rfl
def t_irankOf_12 : X := (.seq (.cond (.t 10) .skip (.exit 0)) t_irankOf_11)
theorem u_irankOf_12 (P : Program) (k : KT) (e : Env) (w : World) : vcK P t_irankOf_12 k e w = vcK P (.seq (.cond (.t 10) .skip (.exit 0)) t_irankOf_11) k e w := rfl
def t_irankOf_13 : X := (.seq (.reg [0, 3, 8, 9, 10] (.c (.q 10 [] (.bin .lss (.t 9) (.t 8))) .nil)) t_irankOf_12)
theorem u_irankOf_13 (P : Program) (k : KT) (e : Env) (w : World) : vcK P t_irankOf_13 k e w = vcK P (.seq (.reg [0, 3, 8, 9, 10] (.c (.q 10 [] (.bin .lss (.t 9) (.t 8))) .nil)) t_irankOf_12) k e w := rfl
def t_irankOf_14 : X := (.blk 0 (.loop [3, 9] [0, 8] t_irankOf_13))
theorem u_irankOf_14 (P : Program) (k : KT) (e : Env) (w : World) : vcK P t_irankOf_14 k e w = vcK P (.blk 0 (.loop [3, 9] [0, 8] t_irankOf_13)) k e w := rfl
def t_irankOf_15 : X := (.seq (.reg [2] (.c (.q 40 [] (.mv (.t 3))) (.c (.q 2 [] (.mv (.t 40))) .nil))) .ret)
theorem u_irankOf_15 (P : Program) (k : KT) (e : Env) (w : World) : vcK P t_irankOf_15 k e w = vcK P (.seq (.reg [2] (.c (.q 40 [] (.mv (.t 3))) (.c (.q 2 [] (.mv (.t 40))) .nil))) .ret) k e w := rfl
def t_irankOf_16 : X := (.seq (.seq (.reg [0, 3, 8, 9] (.c (.q 7 [] (.mv (.t 0))) (.c (.q 8 [] (.len (.t 7))) (.c (.q 9 [] (.mv (.c (.int .i64 0)))) .nil)))) t_irankOf_14) t_irankOf_15)
theorem u_irankOf_16 (P : Program) (k : KT) (e : Env) (w : World) : vcK P t_irankOf_16 k e w = vcK P (.seq (.seq (.reg [0, 3, 8, 9] (.c (.q 7 [] (.mv (.t 0))) (.c (.q 8 [] (.len (.t 7))) (.c (.q 9 [] (.mv (.c (.int .i64 0)))) .nil)))) t_irankOf_14) t_irankOf_15) k e w := rfl
def t_irankOf_17 : X := (.seq (.reg [0, 3] (.c (.q 3 [] (.mv (.c (.int .i64 0)))) .nil)) t_irankOf_16)
theorem u_irankOf_17 (P : Program) (k : KT) (e : Env) (w : World) : vcK P t_irankOf_17 k e w = vcK P (.seq (.reg [0, 3] (.c (.q 3 [] (.mv (.c (.int .i64 0)))) .nil)) t_irankOf_16) k e w := rfl
def x_irankOf : X := (.seq (.reg [0] (.c (.q 2 [] (.mv (.c (.int .i64 0)))) .nil)) t_irankOf_17)
theorem u_irankOf (P : Program) (k : KT) (e : Env) (w : World) : vcK P x_irankOf k e w = vcK P (.seq (.reg [0] (.c (.q 2 [] (.mv (.c (.int .i64 0)))) .nil)) t_irankOf_17) k e w := rfl
def r_irankOf : List XO := [(.mv (.t 2))]
theorem c_irankOf : convF Try.prog [95, 96, 97, 107, 117, 118, 128, 129, 134, 144, 145, 153, 156, 174, 175, 182] Try.f119 [([0], []), ([0, 3], []), ([0, 3, 8, 9], []), ([3, 9], [0, 8]), ([0, 3, 8, 9, 10], []), ([0, 3, 4, 8, 9], []), ([0, 3, 4, 5, 8, 9], []), ([0, 3, 4, 5, 6, 8, 9], []), ([5, 6], [0, 3, 4, 8, 9]), ([0, 3, 4, 5, 6, 8, 9, 17], []), ([0, 3, 4, 5, 6, 8, 9, 26], []), ([0, 3, 4, 5, 6, 8, 9], []), ([0, 3, 4, 5, 6, 8, 9], []), ([0, 3, 8, 9], []), ([0, 3, 8, 9], []), ([2], [])] = some (x_irankOf, r_irankOf) := by kernel_rfl
def us_irankOf := And.intro @u_irankOf (And.intro @u_irankOf_1 (And.intro @u_irankOf_2 (And.intro @u_irankOf_3 (And.intro @u_irankOf_4 (And.intro @u_irankOf_5 (And.intro @u_irankOf_6 (And.intro @u_irankOf_7 (And.intro @u_irankOf_8 (And.intro @u_irankOf_9 (And.intro @u_irankOf_10 (And.intro @u_irankOf_11 (And.intro @u_irankOf_12 (And.intro @u_irankOf_13 (And.intro @u_irankOf_14 (And.intro @u_irankOf_15 (And.intro @u_irankOf_16 @u_irankOf_17))))))))))))))))
def t_iPlaceOfRow_1 : X := (.cond (.t 6) (.seq (.reg [2, 3] (.c (.q 2 [] (.mv (.c (.int .i64 0)))) (.c (.q 3 [] (.mv (.c (.bool false)))) .nil))) .ret) .skip)
theorem u_iPlaceOfRow_1 (P : Program) (k : KT) (e : Env) (w : World) : vcK P t_iPlaceOfRow_1 k e w = vcK P (.cond (.t 6) (.seq (.reg [2, 3] (.c (.q 2 [] (.mv (.c (.int .i64 0)))) (.c (.q 3 [] (.mv (.c (.bool false)))) .nil))) .ret) .skip) k e w := rfl
def t_iPlaceOfRow_2 : X := (.seq (.reg [2, 3] (.c (.q 7 [] (.mv (.t 0))) (.c (.e (some 8) [] (.call false 119 [(.t 7)])) (.c (.q 2 [] (.mv (.t 8))) (.c (.q 3 [] (.mv (.c (.bool true)))) .nil))))) .ret)
theorem u_iPlaceOfRow_2 (P : Program) (k : KT) (e : Env) (w : World) : vcK P t_iPlaceOfRow_2 k e w = vcK P (.seq (.reg [2, 3] (.c (.q 7 [] (.mv (.t 0))) (.c (.e (some 8) [] (.call false 119 [(.t 7)])) (.c (.q 2 [] (.mv (.t 8))) (.c (.q 3 [] (.mv (.c (.bool true)))) .nil))))) .ret) k e w := rfl
def t_iPlaceOfRow_3 : X := (.seq (.seq (.reg [0, 6] (.c (.q 4 [] (.mv (.t 0))) (.c (.e (some 5) [] (.call false 24 [(.t 4)])) (.c (.q 6 [] (.not (.t 5))) .nil)))) t_iPlaceOfRow_1) t_iPlaceOfRow_2)
theorem u_iPlaceOfRow_3 (P : Program) (k : KT) (e : Env) (w : World) : vcK P t_iPlaceOfRow_3 k e w = vcK P (.seq (.seq (.reg [0, 6] (.c (.q 4 [] (.mv (.t 0))) (.c (.e (some 5) [] (.call false 24 [(.t 4)])) (.c (.q 6 [] (.not (.t 5))) .nil)))) t_iPlaceOfRow_1) t_iPlaceOfRow_2) k e w := rfl
def x_iPlaceOfRow : X := (.seq (.reg [0] (.c (.q 2 [] (.mv (.c (.int .i64 0)))) (.c (.q 3 [] (.mv (.c (.bool false)))) .nil))) t_iPlaceOfRow_3)
theorem u_iPlaceOfRow (P : Program) (k : KT) (e : Env) (w : World) : vcK P x_iPlaceOfRow k e w = vcK P (.seq (.reg [0] (.c (.q 2 [] (.mv (.c (.int .i64 0)))) (.c (.q 3 [] (.mv (.c (.bool false)))) .nil))) t_iPlaceOfRow_3) k e w := rfl
def r_iPlaceOfRow : List XO := [(.mv (.t 2)), (.mv (.t 3))]
theorem c_iPlaceOfRow : convF Try.prog [95, 96, 97, 107, 117, 118, 128, 129, 134, 144, 145, 153, 156, 174, 175, 182] Try.f49 [([0], []), ([0, 6], []), ([2, 3], []), ([2, 3], [])] = some (x_iPlaceOfRow, r_iPlaceOfRow) := by kernel_rfl
def us_iPlaceOfRow := And.intro @u_iPlaceOfRow (And.intro @u_iPlaceOfRow_1 (And.intro @u_iPlaceOfRow_2 @u_iPlaceOfRow_3))
def t_sDrawCyclesOf_1 : X := (.seq (.reg [2] (.c (.q 3 [] (.mv (.t 0))) (.c (.e (some 4) [] (.call false 30 [(.t 3)])) (.c (.q 2 [] (.mv (.t 4))) .nil)))) .ret)
theorem u_sDrawCyclesOf_1 (P : Program) (k : KT) (e : Env) (w : World) : vcK P t_sDrawCyclesOf_1 k e w = vcK P (.seq (.reg [2] (.c (.q 3 [] (.mv (.t 0))) (.c (.e (some 4) [] (.call false 30 [(.t 3)])) (.c (.q 2 [] (.mv (.t 4))) .nil)))) .ret) k e w := rfl
def x_sDrawCyclesOf : X := (.seq (.reg [0] (.c (.q 2 [] (.mv (.s []))) .nil)) t_sDrawCyclesOf_1)
theorem u_sDrawCyclesOf (P : Program) (k : KT) (e : Env) (w : World) : vcK P x_sDrawCyclesOf k e w = vcK P (.seq (.reg [0] (.c (.q 2 [] (.mv (.s []))) .nil)) t_sDrawCyclesOf_1) k e w := rfl
def r_sDrawCyclesOf : List XO := [(.mv (.t 2))]
theorem c_sDrawCyclesOf : convF Try.prog [95, 96, 97, 107, 117, 118, 128, 129, 134, 144, 145, 153, 156, 174, 175, 182] Try.f42 [([0], []), ([2], [])] = some (x_sDrawCyclesOf, r_sDrawCyclesOf) := by kernel_rfl
def us_sDrawCyclesOf := And.intro @u_sDrawCyclesOf @u_sDrawCyclesOf_1
def t_sDrawRowOf_1 : X := (.seq (.reg [2, 3] (.c (.q 11 [] (.mv (.t 5))) (.c (.q 12 [] (.mv (.t 4))) (.c (.q 13 [] (.mv (.t 5))) (.c (.e (some 14) [] (.call false 88 [(.t 13)])) (.c (.q 15 [] (.bin .add (.t 14) (.c (.int .i64 1)))) (.c (.e (some 16) [] (.call true 118 [(.t 12), (.t 15)])) (.c (.q 17 [] (.mv (.t 4))) (.c (.e (some 18) [] (.call true 118 [(.t 17), (.c (.int .i64 20))])) (.c (.q 19 [] (.bin .quo (.t 18) (.c (.int .i64 19)))) (.c (.q 20 [] (.bin .sub (.t 16) (.t 19))) (.c (.q 2 [] (.mv (.t 11))) (.c (.q 3 [] (.mv (.t 20))) .nil))))))))))))) .ret)
theorem u_sDrawRowOf_1 (P : Program) (k : KT) (e : Env) (w : World) : vcK P t_sDrawRowOf_1 k e w = vcK P (.seq (.reg [2, 3] (.c (.q 11 [] (.mv (.t 5))) (.c (.q 12 [] (.mv (.t 4))) (.c (.q 13 [] (.mv (.t 5))) (.c (.e (some 14) [] (.call false 88 [(.t 13)])) (.c (.q 15 [] (.bin .add (.t 14) (.c (.int .i64 1)))) (.c (.e (some 16) [] (.call true 118 [(.t 12), (.t 15)])) (.c (.q 17 [] (.mv (.t 4))) (.c (.e (some 18) [] (.call true 118 [(.t 17), (.c (.int .i64 20))])) (.c (.q 19 [] (.bin .quo (.t 18) (.c (.int .i64 19)))) (.c (.q 20 [] (.bin .sub (.t 16) (.t 19))) (.c (.q 2 [] (.mv (.t 11))) (.c (.q 3 [] (.mv (.t 20))) .nil))))))))))))) .ret) k e w := rfl
def t_sDrawRowOf_2 : X := (.seq (.reg [4, 5] (.c (.q 9 [] (.mv (.t 4))) (.c (.e (some 10) [] (.call true 117 [(.t 9)])) (.c (.q 5 [] (.mv (.t 10))) .nil)))) t_sDrawRowOf_1)
theorem u_sDrawRowOf_2 (P : Program) (k : KT) (e : Env) (w : World) : vcK P t_sDrawRowOf_2 k e w = vcK P (.seq (.reg [4, 5] (.c (.q 9 [] (.mv (.t 4))) (.c (.e (some 10) [] (.call true 117 [(.t 9)])) (.c (.q 5 [] (.mv (.t 10))) .nil)))) t_sDrawRowOf_1) k e w := rfl
def t_sDrawRowOf_3 : X := (.seq (.reg [4] (.c (.q 6 [] (.mv (.t 0))) (.c (.q 7 [] (.bld [(.slice none 0 0), (.int .i64 0), (.int .u64 0)] [(0, 0, (.t 6))])) (.c (.e (some 8) [] (.box 88 (.t 7))) (.c (.q 4 [] (.mv (.t 8))) .nil))))) t_sDrawRowOf_2)
theorem u_sDrawRowOf_3 (P : Program) (k : KT) (e : Env) (w : World) : vcK P t_sDrawRowOf_3 k e w = vcK P (.seq (.reg [4] (.c (.q 6 [] (.mv (.t 0))) (.c (.q 7 [] (.bld [(.slice none 0 0), (.int .i64 0), (.int .u64 0)] [(0, 0, (.t 6))])) (.c (.e (some 8) [] (.box 88 (.t 7))) (.c (.q 4 [] (.mv (.t 8))) .nil))))) t_sDrawRowOf_2) k e w := rfl
def x_sDrawRowOf : X := (.seq (.reg [0] (.c (.q 2 [] (.mv (.c (.int .i64 0)))) (.c (.q 3 [] (.mv (.c (.int .i64 0)))) .nil))) t_sDrawRowOf_3)
theorem u_sDrawRowOf (P : Program) (k : KT) (e : Env) (w : World) : vcK P x_sDrawRowOf k e w = vcK P (.seq (.reg [0] (.c (.q 2 [] (.mv (.c (.int .i64 0)))) (.c (.q 3 [] (.mv (.c (.int .i64 0)))) .nil))) t_sDrawRowOf_3) k e w := rfl
def r_sDrawRowOf : List XO := [(.mv (.t 2)), (.mv (.t 3))]
theorem c_sDrawRowOf : convF Try.prog [95, 96, 97, 107, 117, 118, 128, 129, 134, 144, 145, 153, 156, 174, 175, 182] Try.f46 [([0], []), ([4], []), ([4, 5], []), ([2, 3], [])] = some (x_sDrawRowOf, r_sDrawRowOf) := by kernel_rfl
def us_sDrawRowOf := And.intro @u_sDrawRowOf (And.intro @u_sDrawRowOf_1 (And.intro @u_sDrawRowOf_2 @u_sDrawRowOf_3))

def rowV (n k : Int) : Value := if (3 ≤ n ∧ n ≤ 8) ∧ 0 ≤ k ∧ k < factL n.toNat then .tuple ⟨[S (rowGo n.toNat (roundsL n.toNat) k.toNat), .bool true]⟩ else .tuple ⟨[S [], .bool false]⟩
theorem iRowOf_ok (n k : Int) (w : World) : Fn 47 [.int .i64 n, .int .i64 k] w (fun r _ => r = rowV n k) := by
  (refine callsV_of mix Try.func47 c_iRowOf ?_; simp only [↓vsd, vsn, gW, qd, qv, ev, pick, argE, List.map_cons, List.map_nil, Option.map_some, Option.map_none, zipE, List.cons_append, List.nil_append, ne_eq, eq_self, forall_const, implies_true, if_true, if_false, reduceIte, List.cons.injEq, reduceCtorEq, Nat.reduceEqDiff, List.length_nil, List.length_cons, Nat.reduceAdd, Nat.reduceLT, List.set_cons_zero, List.set_cons_succ, ↓us_iRowOf, r_iRowOf])
  refine m_call (iisStage_ok n _) ?_
  rintro _ w1 hx1 rfl
  by_cases hn : 3 ≤ n ∧ n ≤ 8
  · obtain ⟨m, rfl⟩ : ∃ m : Nat, n = m := ⟨n.toNat, by omega⟩
    by_cases h0 : 0 ≤ k
    · have h0' : ¬ k < 0 := by omega
      simp only [↓vsd, vsn, gW, qd, qv, ev, pick, argE, List.map_cons, List.map_nil, Option.map_some, Option.map_none, zipE, List.cons_append, List.nil_append, ne_eq, eq_self, forall_const, implies_true, if_true, if_false, reduceIte, List.cons.injEq, reduceCtorEq, Nat.reduceEqDiff, List.length_nil, List.length_cons, Nat.reduceAdd, Nat.reduceLT, List.set_cons_zero, List.set_cons_succ, ↓us_iRowOf, r_iRowOf, hn, h0, h0']
      refine m_call (ifactorial_ok m (by omega) _) ?_
      rintro _ w2 hx2 rfl
      by_cases hk : k < (factL m : Nat)
      · have hk' : ¬ ((factL m : Nat) : Int) ≤ k := by omega
        obtain ⟨q, rfl⟩ : ∃ q : Nat, k = q := ⟨k.toNat, by omega⟩
        simp only [↓vsd, vsn, gW, qd, qv, ev, pick, argE, List.map_cons, List.map_nil, Option.map_some, Option.map_none, zipE, List.cons_append, List.nil_append, ne_eq, eq_self, forall_const, implies_true, if_true, if_false, reduceIte, List.cons.injEq, reduceCtorEq, Nat.reduceEqDiff, List.length_nil, List.length_cons, Nat.reduceAdd, Nat.reduceLT, List.set_cons_zero, List.set_cons_succ, ↓us_iRowOf, r_iRowOf, hk, hk']
        refine m_call (irowOf_ok m q (by omega) (by omega) _) ?_
        rintro _ w3 hx3 rfl
        simp only [↓vsd, vsn, gW, qd, qv, ev, pick, argE, List.map_cons, List.map_nil, Option.map_some, Option.map_none, zipE, List.cons_append, List.nil_append, ne_eq, eq_self, forall_const, implies_true, if_true, if_false, reduceIte, List.cons.injEq, reduceCtorEq, Nat.reduceEqDiff, List.length_nil, List.length_cons, Nat.reduceAdd, Nat.reduceLT, List.set_cons_zero, List.set_cons_succ, ↓us_iRowOf, r_iRowOf]
        exact ⟨(hx1.trans hx2).trans hx3, by rw [rowV, if_pos ⟨hn, h0, by simpa using hk⟩]; rfl⟩
      · have hk' : ((factL m : Nat) : Int) ≤ k := by omega
        simp only [↓vsd, vsn, gW, qd, qv, ev, pick, argE, List.map_cons, List.map_nil, Option.map_some, Option.map_none, zipE, List.cons_append, List.nil_append, ne_eq, eq_self, forall_const, implies_true, if_true, if_false, reduceIte, List.cons.injEq, reduceCtorEq, Nat.reduceEqDiff, List.length_nil, List.length_cons, Nat.reduceAdd, Nat.reduceLT, List.set_cons_zero, List.set_cons_succ, ↓us_iRowOf, r_iRowOf, hk, hk']
        exact ⟨hx1.trans hx2, by rw [rowV, if_neg (fun hh => hk (by simpa using hh.2.2))]⟩
    · have h0' : k < 0 := by omega
      simp only [↓vsd, vsn, gW, qd, qv, ev, pick, argE, List.map_cons, List.map_nil, Option.map_some, Option.map_none, zipE, List.cons_append, List.nil_append, ne_eq, eq_self, forall_const, implies_true, if_true, if_false, reduceIte, List.cons.injEq, reduceCtorEq, Nat.reduceEqDiff, List.length_nil, List.length_cons, Nat.reduceAdd, Nat.reduceLT, List.set_cons_zero, List.set_cons_succ, ↓us_iRowOf, r_iRowOf, hn, h0, h0']
      exact ⟨hx1, by rw [rowV, if_neg (fun hh => h0 hh.2.1)]⟩
  · have hn' : n < 3 ∨ 8 < n := by omega
    simp only [↓vsd, vsn, gW, qd, qv, ev, pick, argE, List.map_cons, List.map_nil, Option.map_some, Option.map_none, zipE, List.cons_append, List.nil_append, ne_eq, eq_self, forall_const, implies_true, if_true, if_false, reduceIte, List.cons.injEq, reduceCtorEq, Nat.reduceEqDiff, List.length_nil, List.length_cons, Nat.reduceAdd, Nat.reduceLT, List.set_cons_zero, List.set_cons_succ, ↓us_iRowOf, r_iRowOf, hn]
    rcases hn' with hn' | hn'
    · have h3 : ¬ 3 ≤ n := by omega
      simp only [↓vsd, vsn, gW, qd, qv, ev, pick, argE, List.map_cons, List.map_nil, Option.map_some, Option.map_none, zipE, List.cons_append, List.nil_append, ne_eq, eq_self, forall_const, implies_true, if_true, if_false, reduceIte, List.cons.injEq, reduceCtorEq, Nat.reduceEqDiff, List.length_nil, List.length_cons, Nat.reduceAdd, Nat.reduceLT, List.set_cons_zero, List.set_cons_succ, ↓us_iRowOf, r_iRowOf, h3, hn']
      exact ⟨hx1, by rw [rowV, if_neg (fun hh => hn hh.1)]⟩
    · have h3 : ¬ n ≤ 8 := by omega
      simp only [↓vsd, vsn, gW, qd, qv, ev, pick, argE, List.map_cons, List.map_nil, Option.map_some, Option.map_none, zipE, List.cons_append, List.nil_append, ne_eq, eq_self, forall_const, implies_true, if_true, if_false, reduceIte, List.cons.injEq, reduceCtorEq, Nat.reduceEqDiff, List.length_nil, List.length_cons, Nat.reduceAdd, Nat.reduceLT, List.set_cons_zero, List.set_cons_succ, ↓us_iRowOf, r_iRowOf, h3, hn']
      exact ⟨hx1, by rw [rowV, if_neg (fun hh => hn hh.1)]⟩
theorem sRowOf_okg (n : Nat) (k : Int) (hn : 3 ≤ n ∧ n < 9) (w : World) : Fn 48 [.int .i64 n, .int .i64 k] w (fun r _ => r = rowV n k) := by
  by_cases hk : 0 ≤ k ∧ k < (factL n : Nat)
  · obtain ⟨q, rfl⟩ : ∃ q : Nat, k = q := ⟨k.toNat, by omega⟩
    refine (sRowOf_ok n q hn (by omega) w).mono fun v w' h => ?_
    rw [h, rowV, if_pos ⟨by omega, by omega, by simpa using hk.2⟩]; rfl
  · (refine callsV_of mix Try.func48 c_sRowOf ?_; simp only [↓vsd, vsn, gW, qd, qv, ev, pick, argE, List.map_cons, List.map_nil, Option.map_some, Option.map_none, zipE, List.cons_append, List.nil_append, ne_eq, eq_self, forall_const, implies_true, if_true, if_false, reduceIte, List.cons.injEq, reduceCtorEq, Nat.reduceEqDiff, List.length_nil, List.length_cons, Nat.reduceAdd, Nat.reduceLT, List.set_cons_zero, List.set_cons_succ, ↓us_sRowOf, r_sRowOf])
    refine m_call (sl1In_ok _ _ _ _) ?_
    rintro _ w1 hx1 rfl
    have h3 : 3 ≤ (n : Int) := by omega
    have h8 : (n : Int) ≤ 8 := by omega
    have hf := factL_le n hn.2
    simp only [↓vsd, vsn, gW, qd, qv, ev, pick, argE, List.map_cons, List.map_nil, Option.map_some, Option.map_none, zipE, List.cons_append, List.nil_append, ne_eq, eq_self, forall_const, implies_true, if_true, if_false, reduceIte, List.cons.injEq, reduceCtorEq, Nat.reduceEqDiff, List.length_nil, List.length_cons, Nat.reduceAdd, Nat.reduceLT, List.set_cons_zero, List.set_cons_succ, ↓us_sRowOf, r_sRowOf, h3, h8]
    refine m_call (sl1Fact_ok n hn.2 _) ?_
    rintro _ w2 hx2 rfl
    simp only [↓vsd, vsn, gW, qd, qv, ev, pick, argE, List.map_cons, List.map_nil, Option.map_some, Option.map_none, zipE, List.cons_append, List.nil_append, ne_eq, eq_self, forall_const, implies_true, if_true, if_false, reduceIte, List.cons.injEq, reduceCtorEq, Nat.reduceEqDiff, List.length_nil, List.length_cons, Nat.reduceAdd, Nat.reduceLT, List.set_cons_zero, List.set_cons_succ, ↓us_sRowOf, r_sRowOf]
    refine ⟨inR_i64 (by omega), m_call (sl1In_ok _ _ _ _) ?_⟩
    rintro _ w3 hx3 rfl
    have hk' : ¬ (0 ≤ k ∧ k ≤ (factL n : Nat) - 1) := by omega
    simp only [↓vsd, vsn, gW, qd, qv, ev, pick, argE, List.map_cons, List.map_nil, Option.map_some, Option.map_none, zipE, List.cons_append, List.nil_append, ne_eq, eq_self, forall_const, implies_true, if_true, if_false, reduceIte, List.cons.injEq, reduceCtorEq, Nat.reduceEqDiff, List.length_nil, List.length_cons, Nat.reduceAdd, Nat.reduceLT, List.set_cons_zero, List.set_cons_succ, ↓us_sRowOf, r_sRowOf, hk']
    exact fun _ => ⟨(hx1.trans hx2).trans hx3, by rw [rowV, if_neg (fun hh => hk ⟨hh.2.1, by simpa using hh.2.2⟩)]⟩
theorem rank_le : ∀ l : List UInt8, rankL l + 1 ≤ factL l.length := by
  intro l
  induction l with
  | nil => decide
  | cons x l ih =>
    have h1 : (l.filter fun y => decide (y.toNat < x.toNat)).length ≤ l.length := List.length_filter_le _ _
    have h2 := Nat.mul_le_mul_right (factL l.length) h1
    simp only [rankL, List.length_cons, factL, Nat.add_mul]
    omega
theorem drop_cons (l : List UInt8) (i : Nat) (h : i < l.length) : l.drop i = l.getD i 0 :: l.drop (i + 1) := by
  rw [List.drop_eq_getElem_cons h, List.getD_eq_getElem?_getD, List.getElem?_eq_getElem h]; rfl
theorem irankOf_ok (l : List UInt8) (hl : l.length < 9) (w : World) : Fn 119 [S l] w (fun r _ => r = .int .i64 (rankL l : Nat)) := by
  (refine callsV_of mix Try.func119 c_irankOf ?_; simp only [↓vsd, vsn, gW, qd, qv, ev, pick, argE, List.map_cons, List.map_nil, Option.map_some, Option.map_none, zipE, List.cons_append, List.nil_append, ne_eq, eq_self, forall_const, implies_true, if_true, if_false, reduceIte, List.cons.injEq, reduceCtorEq, Nat.reduceEqDiff, List.length_nil, List.length_cons, Nat.reduceAdd, Nat.reduceLT, List.set_cons_zero, List.set_cons_succ, ↓us_irankOf, r_irankOf])
  have hr := rank_le l
  have hf := factL_le l.length hl
  refine m_upto l.length (fun i vs w' => ∃ q : Nat, vs = [.int .i64 q, .int .i64 i] ∧ q + rankL (l.drop i) = rankL l ∧ Ext w w') ⟨0, rfl, by simp, Ext.refl _⟩ ?_
  rintro i vs w1 hi ⟨q, rfl, hq, hx1⟩
  by_cases hlt : i < l.length
  · have hltI : (i : Int) < l.length := by omega
    have hltJ : ¬ (l.length : Int) ≤ i := by omega
    simp only [↓vsd, vsn, gW, qd, qv, ev, pick, argE, List.map_cons, List.map_nil, Option.map_some, Option.map_none, zipE, List.cons_append, List.nil_append, ne_eq, eq_self, forall_const, implies_true, if_true, if_false, reduceIte, List.cons.injEq, reduceCtorEq, Nat.reduceEqDiff, List.length_nil, List.length_cons, Nat.reduceAdd, Nat.reduceLT, List.set_cons_zero, List.set_cons_succ, ↓us_irankOf, r_irankOf, hltI, hltJ]
    refine ⟨inR_i64 (by omega), ?_⟩
    refine m_upto (l.length - (i + 1)) (fun j vs w' => ∃ q2 : Nat, vs = [.int .i64 q2, .int .i64 (i + 1 + j : Nat)] ∧ q2 + ((l.drop (i + 1 + j)).filter fun y => decide (y.toNat < (l.getD i 0).toNat)).length = ((l.drop (i + 1)).filter fun y => decide (y.toNat < (l.getD i 0).toNat)).length ∧ Ext w w') ⟨0, rfl, by simp, hx1⟩ ?_
    rintro j vs w2 hj ⟨q2, rfl, hq2, hx2⟩
    have hle : ((l.drop (i + 1)).filter fun y => decide (y.toNat < (l.getD i 0).toNat)).length ≤ 8 := by
      have := List.length_filter_le (fun y : UInt8 => decide (y.toNat < (l.getD i 0).toNat)) (l.drop (i + 1))
      rw [List.length_drop] at this; omega
    by_cases hlj : i + 1 + j < l.length
    · have hljI : ((i + 1 + j : Nat) : Int) < l.length := by omega
      have hljJ : ¬ (l.length : Int) ≤ (i + 1 + j : Nat) := by omega
      rw [drop_cons l _ hlj, List.filter_cons] at hq2
      simp only [↓vsd, vsn, gW, qd, qv, ev, pick, argE, List.map_cons, List.map_nil, Option.map_some, Option.map_none, zipE, List.cons_append, List.nil_append, ne_eq, eq_self, forall_const, implies_true, if_true, if_false, reduceIte, List.cons.injEq, reduceCtorEq, Nat.reduceEqDiff, List.length_nil, List.length_cons, Nat.reduceAdd, Nat.reduceLT, List.set_cons_zero, List.set_cons_succ, ↓us_irankOf, r_irankOf, hljI, hljJ]
      refine ⟨by omega, by omega, fun hlo => ⟨inR_i64 (by omega), inR_i64 (by omega), UpTo.next (by omega) ⟨q2 + 1, by first | rfl | (simp; omega), ?_, by first | exact hx2 | exact dr hx2⟩⟩, fun hhi => ⟨inR_i64 (by omega), UpTo.next (by omega) ⟨q2, by first | rfl | (simp; omega), ?_, by first | exact hx2 | exact dr hx2⟩⟩⟩
      · rw [if_pos (decide_eq_true (by omega)), List.length_cons] at hq2
        rw [← hq2, show i + 1 + (j + 1) = i + 1 + j + 1 by omega]; omega
      · rw [if_neg (by rw [decide_eq_false (by omega)]; exact Bool.false_ne_true)] at hq2
        rw [← hq2, show i + 1 + (j + 1) = i + 1 + j + 1 by omega]
    · have hljI : ¬ ((i + 1 + j : Nat) : Int) < l.length := by omega
      have hd : l.drop (i + 1 + j) = [] := List.drop_eq_nil_of_le (by omega)
      rw [hd] at hq2
      simp only [List.filter_nil, List.length_nil, Nat.add_zero] at hq2
      have eI : (l.length : Int) - 1 - (i : Nat) = (l.length - 1 - i : Nat) := by omega
      simp only [↓vsd, vsn, gW, qd, qv, ev, pick, argE, List.map_cons, List.map_nil, Option.map_some, Option.map_none, zipE, List.cons_append, List.nil_append, ne_eq, eq_self, forall_const, implies_true, if_true, if_false, reduceIte, List.cons.injEq, reduceCtorEq, Nat.reduceEqDiff, List.length_nil, List.length_cons, Nat.reduceAdd, Nat.reduceLT, List.set_cons_zero, List.set_cons_succ, ↓us_irankOf, r_irankOf, hljI, eI]
      refine ⟨inR_i64 (by omega), inR_i64 (by omega), m_call (ifactorial_ok (l.length - 1 - i) (by omega) _) ?_⟩
      rintro _ w3 hx3 rfl
      rw [drop_cons l i hlt, rankL, List.length_drop, ← hq2, show l.length - (i + 1) = l.length - 1 - i by omega] at hq
      have hfi := factL_le (l.length - 1 - i) (by omega)
      have eM : (q2 : Int) * ((factL (l.length - 1 - i) : Nat) : Int) = (q2 * factL (l.length - 1 - i) : Nat) := by simp
      generalize hM : q2 * factL (l.length - 1 - i) = M at *
      simp only [↓vsd, vsn, gW, qd, qv, ev, pick, argE, List.map_cons, List.map_nil, Option.map_some, Option.map_none, zipE, List.cons_append, List.nil_append, ne_eq, eq_self, forall_const, implies_true, if_true, if_false, reduceIte, List.cons.injEq, reduceCtorEq, Nat.reduceEqDiff, List.length_nil, List.length_cons, Nat.reduceAdd, Nat.reduceLT, List.set_cons_zero, List.set_cons_succ, ↓us_irankOf, r_irankOf, eM]
      exact ⟨inR_i64 (by omega), inR_i64 (by omega), inR_i64 (by omega), UpTo.next hlt ⟨q + M, by first | rfl | (simp; omega), by omega, by first | exact hx2.trans hx3 | exact hx2.trans (ud hx3) | exact dr (hx2.trans hx3)⟩⟩
  · obtain rfl : i = l.length := by omega
    have hltI : ¬ (l.length : Int) < l.length := by omega
    simp only [↓vsd, vsn, gW, qd, qv, ev, pick, argE, List.map_cons, List.map_nil, Option.map_some, Option.map_none, zipE, List.cons_append, List.nil_append, ne_eq, eq_self, forall_const, implies_true, if_true, if_false, reduceIte, List.cons.injEq, reduceCtorEq, Nat.reduceEqDiff, List.length_nil, List.length_cons, Nat.reduceAdd, Nat.reduceLT, List.set_cons_zero, List.set_cons_succ, ↓us_irankOf, r_irankOf, hltI]
    rw [List.drop_length] at hq
    exact ⟨hx1, by rw [← hq]; rfl⟩
theorem iPlaceOfRow_ok (l : List UInt8) (h : IsRow l) (w : World) : Fn 49 [S l] w (fun r _ => r = .tuple ⟨[.int .i64 (rankL l : Nat), .bool true]⟩) := by
  (refine callsV_of mix Try.func49 c_iPlaceOfRow ?_; simp only [↓vsd, vsn, gW, qd, qv, ev, pick, argE, List.map_cons, List.map_nil, Option.map_some, Option.map_none, zipE, List.cons_append, List.nil_append, ne_eq, eq_self, forall_const, implies_true, if_true, if_false, reduceIte, List.cons.injEq, reduceCtorEq, Nat.reduceEqDiff, List.length_nil, List.length_cons, Nat.reduceAdd, Nat.reduceLT, List.set_cons_zero, List.set_cons_succ, ↓us_iPlaceOfRow, r_iPlaceOfRow])
  refine m_call (iGoodRow_ok _ _) ?_
  rintro _ w1 hx1 rfl
  simp only [↓vsd, vsn, gW, qd, qv, ev, pick, argE, List.map_cons, List.map_nil, Option.map_some, Option.map_none, zipE, List.cons_append, List.nil_append, ne_eq, eq_self, forall_const, implies_true, if_true, if_false, reduceIte, List.cons.injEq, reduceCtorEq, Nat.reduceEqDiff, List.length_nil, List.length_cons, Nat.reduceAdd, Nat.reduceLT, List.set_cons_zero, List.set_cons_succ, ↓us_iPlaceOfRow, r_iPlaceOfRow, h]
  refine m_call (irankOf_ok l (by have := h.1; omega) _) ?_
  rintro _ w2 hx2 rfl
  simp only [↓vsd, vsn, gW, qd, qv, ev, pick, argE, List.map_cons, List.map_nil, Option.map_some, Option.map_none, zipE, List.cons_append, List.nil_append, ne_eq, eq_self, forall_const, implies_true, if_true, if_false, reduceIte, List.cons.injEq, reduceCtorEq, Nat.reduceEqDiff, List.length_nil, List.length_cons, Nat.reduceAdd, Nat.reduceLT, List.set_cons_zero, List.set_cons_succ, ↓us_iPlaceOfRow, r_iPlaceOfRow]
  exact hx1.trans hx2
theorem sDrawCyclesOf_ok (v : Value) (code : List UInt8) (hl : code.length ≤ 1048576) (w : World) (h : Sq fU 1 w v code) : Fn 42 [v] w (fun r _ => ∃ x, r = S x ∧ x.length ≤ 10) := by
  (refine callsV_of mix Try.func42 c_sDrawCyclesOf ?_; simp only [↓vsd, vsn, gW, qd, qv, ev, pick, argE, List.map_cons, List.map_nil, Option.map_some, Option.map_none, zipE, List.cons_append, List.nil_append, ne_eq, eq_self, forall_const, implies_true, if_true, if_false, reduceIte, List.cons.injEq, reduceCtorEq, Nat.reduceEqDiff, List.length_nil, List.length_cons, Nat.reduceAdd, Nat.reduceLT, List.set_cons_zero, List.set_cons_succ, ↓us_sDrawCyclesOf, r_sDrawCyclesOf])
  refine m_call (sDrawTurnRow_ok v code hl _ h) ?_
  rintro _ w1 hx1 ⟨x, rfl, hx⟩
  simp only [↓vsd, vsn, gW, qd, qv, ev, pick, argE, List.map_cons, List.map_nil, Option.map_some, Option.map_none, zipE, List.cons_append, List.nil_append, ne_eq, eq_self, forall_const, implies_true, if_true, if_false, reduceIte, List.cons.injEq, reduceCtorEq, Nat.reduceEqDiff, List.length_nil, List.length_cons, Nat.reduceAdd, Nat.reduceLT, List.set_cons_zero, List.set_cons_succ, ↓us_sDrawCyclesOf, r_sDrawCyclesOf]
  exact ⟨hx1, _, rfl, hx⟩
theorem sDrawRowOf_ok (v : Value) (code : List UInt8) (hl : code.length ≤ 1048576) (w : World) (h : Sq fU 1 w v code) : Fn 46 [v] w (fun r _ => ∃ (n : Nat) (k : Int), r = .tuple ⟨[.int .i64 n, .int .i64 k]⟩ ∧ 3 ≤ n ∧ n ≤ 8 ∧ -1 ≤ k ∧ k ≤ 1000000) := by
  (refine callsV_of mix Try.func46 c_sDrawRowOf ?_; simp only [↓vsd, vsn, gW, qd, qv, ev, pick, argE, List.map_cons, List.map_nil, Option.map_some, Option.map_none, zipE, List.cons_append, List.nil_append, ne_eq, eq_self, forall_const, implies_true, if_true, if_false, reduceIte, List.cons.injEq, reduceCtorEq, Nat.reduceEqDiff, List.length_nil, List.length_cons, Nat.reduceAdd, Nat.reduceLT, List.set_cons_zero, List.set_cons_succ, ↓us_sDrawRowOf, r_sDrawRowOf])
  simp only [↓vsd, vsn, gW, qd, qv, ev, pick, argE, List.map_cons, List.map_nil, Option.map_some, Option.map_none, zipE, List.cons_append, List.nil_append, ne_eq, eq_self, forall_const, implies_true, if_true, if_false, reduceIte, List.cons.injEq, reduceCtorEq, Nat.reduceEqDiff, List.length_nil, List.length_cons, Nat.reduceAdd, Nat.reduceLT, List.set_cons_zero, List.set_cons_succ, ↓us_sDrawRowOf, r_sDrawRowOf, h.facts]
  refine m_al ?_
  rintro b w1 hb hblk hx1 hs1
  have hc := Cur.new h hl hb hblk hx1
  simp only [↓vsd, vsn, gW, qd, qv, ev, pick, argE, List.map_cons, List.map_nil, Option.map_some, Option.map_none, zipE, List.cons_append, List.nil_append, ne_eq, eq_self, forall_const, implies_true, if_true, if_false, reduceIte, List.cons.injEq, reduceCtorEq, Nat.reduceEqDiff, List.length_nil, List.length_cons, Nat.reduceAdd, Nat.reduceLT, List.set_cons_zero, List.set_cons_succ, ↓us_sDrawRowOf, r_sDrawRowOf]
  refine m_callw (.inl rfl) (sl1Cur_stage_ok w b _ w1 (by omega) hc) ?_
  rintro _ w2 ⟨hc2, hg2, n, rfl, hn⟩
  simp only [↓vsd, vsn, gW, qd, qv, ev, pick, argE, List.map_cons, List.map_nil, Option.map_some, Option.map_none, zipE, List.cons_append, List.nil_append, ne_eq, eq_self, forall_const, implies_true, if_true, if_false, reduceIte, List.cons.injEq, reduceCtorEq, Nat.reduceEqDiff, List.length_nil, List.length_cons, Nat.reduceAdd, Nat.reduceLT, List.set_cons_zero, List.set_cons_succ, ↓us_sDrawRowOf, r_sDrawRowOf]
  refine m_call (sl1Fact_ok n (by omega) _) ?_
  rintro _ w3 hx3 rfl
  have hf := factL_le n (by omega)
  simp only [↓vsd, vsn, gW, qd, qv, ev, pick, argE, List.map_cons, List.map_nil, Option.map_some, Option.map_none, zipE, List.cons_append, List.nil_append, ne_eq, eq_self, forall_const, implies_true, if_true, if_false, reduceIte, List.cons.injEq, reduceCtorEq, Nat.reduceEqDiff, List.length_nil, List.length_cons, Nat.reduceAdd, Nat.reduceLT, List.set_cons_zero, List.set_cons_succ, ↓us_sDrawRowOf, r_sDrawRowOf]
  have hc3 : Cur w b (0 + 2) w3 := by first | exact hc2.ext hx3 | exact hc2.ext (ud hx3)
  refine ⟨inR_i64 (by omega), m_callw (.inr rfl) (sl1Cur_pick_ok w b _ (factL n + 1 : Nat) (by omega) w3 (by omega) hc3) ?_⟩
  rintro _ w4 ⟨hc4, hg4, k, rfl, hk⟩
  simp only [↓vsd, vsn, gW, qd, qv, ev, pick, argE, List.map_cons, List.map_nil, Option.map_some, Option.map_none, zipE, List.cons_append, List.nil_append, ne_eq, eq_self, forall_const, implies_true, if_true, if_false, reduceIte, List.cons.injEq, reduceCtorEq, Nat.reduceEqDiff, List.length_nil, List.length_cons, Nat.reduceAdd, Nat.reduceLT, List.set_cons_zero, List.set_cons_succ, ↓us_sDrawRowOf, r_sDrawRowOf]
  refine m_callw (.inr rfl) (sl1Cur_pick_ok w b _ 20 (by omega) w4 (by omega) hc4) ?_
  rintro _ w5 ⟨hc5, hg5, j, rfl, hj⟩
  have e19 : (j : Int).tdiv 19 = (j / 19 : Nat) := rfl
  simp only [↓vsd, vsn, gW, qd, qv, ev, pick, argE, List.map_cons, List.map_nil, Option.map_some, Option.map_none, zipE, List.cons_append, List.nil_append, ne_eq, eq_self, forall_const, implies_true, if_true, if_false, reduceIte, List.cons.injEq, reduceCtorEq, Nat.reduceEqDiff, List.length_nil, List.length_cons, Nat.reduceAdd, Nat.reduceLT, List.set_cons_zero, List.set_cons_succ, ↓us_sDrawRowOf, r_sDrawRowOf, e19]
  have : j / 19 ≤ 1 := by omega
  generalize j / 19 = q at *
  exact ⟨⟨by omega, inR_i64 (by omega)⟩, inR_i64 (by omega), hc5.base, n, _, rfl, hn.1, hn.2, by omega, by omega⟩
end Go.Proofs.Ytnocgihggdgkeaa
