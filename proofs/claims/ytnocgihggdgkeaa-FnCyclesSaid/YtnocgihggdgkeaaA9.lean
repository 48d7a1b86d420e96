/-
  Rows by rank; the rows that fit a pattern; the call of the law FnExactRowsThatFit.
  Conditions: none.
-/
import Derived.Test.YtnocgihggdgkeaaA3
import Derived.Test.YtnocgihggdgkeaaA6
import Derived.Test.YtnocgihggdgkeaaPd
set_option linter.unusedSimpArgs false
set_option linter.unusedVariables false
set_option linter.defProp false
namespace Go.Proofs.Ytnocgihggdgkeaa
open Go Go.RowKit
def t_irounds_1 : X := (.seq (.reg [2] (.c (.q 3 [] (.mv (.t 0))) (.c (.q 4 [] (.sub (.s [49, 50, 51, 52, 53, 54, 55, 56]) none (some (.t 3)))) (.c (.q 2 [] (.mv (.t 4))) .nil)))) .ret)
theorem u_irounds_1 (P : Program) (k : KT) (e : Env) (w : World) : vcK P t_irounds_1 k e w = vcK P (.seq (.reg [2] (.c (.q 3 [] (.mv (.t 0))) (.c (.q 4 [] (.sub (.s [49, 50, 51, 52, 53, 54, 55, 56]) none (some (.t 3)))) (.c (.q 2 [] (.mv (.t 4))) .nil)))) .ret) k e w := rfl
def x_irounds : X := (.seq (.reg [0] (.c (.q 2 [] (.mv (.s []))) .nil)) t_irounds_1)
theorem u_irounds (P : Program) (k : KT) (e : Env) (w : World) : vcK P x_irounds k e w = vcK P (.seq (.reg [0] (.c (.q 2 [] (.mv (.s []))) .nil)) t_irounds_1) k e w := rfl
def r_irounds : List XO := [(.mv (.t 2))]
theorem c_irounds : convF Try.prog [95, 96, 97, 107, 117, 118, 128, 129, 134, 144, 145, 153, 156, 174, 175, 182] Try.f104 [([0], []), ([2], [])] = some (x_irounds, r_irounds) := by kernel_rfl
def us_irounds := And.intro @u_irounds @u_irounds_1
def t_sl1Rounds_1 : X := (.seq (.reg [2] (.c (.q 3 [] (.mv (.t 0))) (.c (.q 4 [] (.sub (.s [49, 50, 51, 52, 53, 54, 55, 56]) none (some (.t 3)))) (.c (.q 2 [] (.mv (.t 4))) .nil)))) .ret)
theorem u_sl1Rounds_1 (P : Program) (k : KT) (e : Env) (w : World) : vcK P t_sl1Rounds_1 k e w = vcK P (.seq (.reg [2] (.c (.q 3 [] (.mv (.t 0))) (.c (.q 4 [] (.sub (.s [49, 50, 51, 52, 53, 54, 55, 56]) none (some (.t 3)))) (.c (.q 2 [] (.mv (.t 4))) .nil)))) .ret) k e w := rfl
def x_sl1Rounds : X := (.seq (.reg [0] (.c (.q 2 [] (.mv (.s []))) .nil)) t_sl1Rounds_1)
theorem u_sl1Rounds (P : Program) (k : KT) (e : Env) (w : World) : vcK P x_sl1Rounds k e w = vcK P (.seq (.reg [0] (.c (.q 2 [] (.mv (.s []))) .nil)) t_sl1Rounds_1) k e w := rfl
def r_sl1Rounds : List XO := [(.mv (.t 2))]
theorem c_sl1Rounds : convF Try.prog [95, 96, 97, 107, 117, 118, 128, 129, 134, 144, 145, 153, 156, 174, 175, 182] Try.f108 [([0], []), ([2], [])] = some (x_sl1Rounds, r_sl1Rounds) := by kernel_rfl
def us_sl1Rounds := And.intro @u_sl1Rounds @u_sl1Rounds_1
def t_ifactorial_1 : X := (.cond (.t 7) .skip (.exit 0))
theorem u_ifactorial_1 (P : Program) (k : KT) (e : Env) (w : World) : vcK P t_ifactorial_1 k e w = vcK P (.cond (.t 7) .skip (.exit 0)) k e w := rfl
def t_ifactorial_2 : X := (.reg [0, 3, 4] (.c (.q 8 [] (.mv (.t 4))) (.c (.q 9 [] (.bin .add (.t 8) (.c (.int .i64 1)))) (.c (.q 4 [] (.mv (.t 9))) .nil))))
theorem u_ifactorial_2 (P : Program) (k : KT) (e : Env) (w : World) : vcK P t_ifactorial_2 k e w = vcK P (.reg [0, 3, 4] (.c (.q 8 [] (.mv (.t 4))) (.c (.q 9 [] (.bin .add (.t 8) (.c (.int .i64 1)))) (.c (.q 4 [] (.mv (.t 9))) .nil)))) k e w := rfl
def t_ifactorial_3 : X := (.seq (.blk 1 (.reg [0, 3, 4] (.c (.q 10 [] (.mv (.t 3))) (.c (.q 11 [] (.mv (.t 4))) (.c (.q 12 [] (.bin .mul (.t 10) (.t 11))) (.c (.q 3 [] (.mv (.t 12))) .nil)))))) t_ifactorial_2)
theorem u_ifactorial_3 (P : Program) (k : KT) (e : Env) (w : World) : vcK P t_ifactorial_3 k e w = vcK P (.seq (.blk 1 (.reg [0, 3, 4] (.c (.q 10 [] (.mv (.t 3))) (.c (.q 11 [] (.mv (.t 4))) (.c (.q 12 [] (.bin .mul (.t 10) (.t 11))) (.c (.q 3 [] (.mv (.t 12))) .nil)))))) t_ifactorial_2) k e w := rfl
def t_ifactorial_4 : X := (.seq (.seq (.reg [0, 3, 4, 7] (.c (.q 5 [] (.mv (.t 4))) (.c (.q 6 [] (.mv (.t 0))) (.c (.q 7 [] (.bin .leq (.t 5) (.t 6))) .nil)))) t_ifactorial_1) t_ifactorial_3)
theorem u_ifactorial_4 (P : Program) (k : KT) (e : Env) (w : World) : vcK P t_ifactorial_4 k e w = vcK P (.seq (.seq (.reg [0, 3, 4, 7] (.c (.q 5 [] (.mv (.t 4))) (.c (.q 6 [] (.mv (.t 0))) (.c (.q 7 [] (.bin .leq (.t 5) (.t 6))) .nil)))) t_ifactorial_1) t_ifactorial_3) k e w := rfl
def t_ifactorial_5 : X := (.blk 0 (.loop [3, 4] [0] t_ifactorial_4))
theorem u_ifactorial_5 (P : Program) (k : KT) (e : Env) (w : World) : vcK P t_ifactorial_5 k e w = vcK P (.blk 0 (.loop [3, 4] [0] t_ifactorial_4)) k e w := rfl
def t_ifactorial_6 : X := (.seq (.reg [2] (.c (.q 13 [] (.mv (.t 3))) (.c (.q 2 [] (.mv (.t 13))) .nil))) .ret)
theorem u_ifactorial_6 (P : Program) (k : KT) (e : Env) (w : World) : vcK P t_ifactorial_6 k e w = vcK P (.seq (.reg [2] (.c (.q 13 [] (.mv (.t 3))) (.c (.q 2 [] (.mv (.t 13))) .nil))) .ret) k e w := rfl
def t_ifactorial_7 : X := (.seq (.seq (.reg [0, 3, 4] (.c (.q 4 [] (.mv (.c (.int .i64 2)))) .nil)) t_ifactorial_5) t_ifactorial_6)
theorem u_ifactorial_7 (P : Program) (k : KT) (e : Env) (w : World) : vcK P t_ifactorial_7 k e w = vcK P (.seq (.seq (.reg [0, 3, 4] (.c (.q 4 [] (.mv (.c (.int .i64 2)))) .nil)) t_ifactorial_5) t_ifactorial_6) k e w := rfl
def t_ifactorial_8 : X := (.seq (.reg [0, 3] (.c (.q 3 [] (.mv (.c (.int .i64 1)))) .nil)) t_ifactorial_7)
theorem u_ifactorial_8 (P : Program) (k : KT) (e : Env) (w : World) : vcK P t_ifactorial_8 k e w = vcK P (.seq (.reg [0, 3] (.c (.q 3 [] (.mv (.c (.int .i64 1)))) .nil)) t_ifactorial_7) k e w := rfl
def x_ifactorial : X := (.seq (.reg [0] (.c (.q 2 [] (.mv (.c (.int .i64 0)))) .nil)) t_ifactorial_8)
theorem u_ifactorial (P : Program) (k : KT) (e : Env) (w : World) : vcK P x_ifactorial k e w = vcK P (.seq (.reg [0] (.c (.q 2 [] (.mv (.c (.int .i64 0)))) .nil)) t_ifactorial_8) k e w := rfl
def r_ifactorial : List XO := [(.mv (.t 2))]
theorem c_ifactorial : convF Try.prog [95, 96, 97, 107, 117, 118, 128, 129, 134, 144, 145, 153, 156, 174, 175, 182] Try.f91 [([0], []), ([0, 3], []), ([0, 3, 4], []), ([3, 4], [0]), ([0, 3, 4, 7], []), ([0, 3, 4], []), ([0, 3, 4], []), ([2], [])] = some (x_ifactorial, r_ifactorial) := by kernel_rfl
def us_ifactorial := And.intro @u_ifactorial (And.intro @u_ifactorial_1 (And.intro @u_ifactorial_2 (And.intro @u_ifactorial_3 (And.intro @u_ifactorial_4 (And.intro @u_ifactorial_5 (And.intro @u_ifactorial_6 (And.intro @u_ifactorial_7 @u_ifactorial_8)))))))
def t_sl1Fact_1 : X := (.cond (.t 5) .skip (.exit 0))
theorem u_sl1Fact_1 (P : Program) (k : KT) (e : Env) (w : World) : vcK P t_sl1Fact_1 k e w = vcK P (.cond (.t 5) .skip (.exit 0)) k e w := rfl
def t_sl1Fact_2 : X := (.reg [0, 3] (.c (.q 6 [] (.mv (.t 0))) (.c (.q 7 [] (.bin .sub (.t 6) (.c (.int .i64 1)))) (.c (.q 0 [] (.mv (.t 7))) .nil))))
theorem u_sl1Fact_2 (P : Program) (k : KT) (e : Env) (w : World) : vcK P t_sl1Fact_2 k e w = vcK P (.reg [0, 3] (.c (.q 6 [] (.mv (.t 0))) (.c (.q 7 [] (.bin .sub (.t 6) (.c (.int .i64 1)))) (.c (.q 0 [] (.mv (.t 7))) .nil)))) k e w := rfl
def t_sl1Fact_3 : X := (.seq (.blk 1 (.reg [0, 3] (.c (.q 8 [] (.mv (.t 3))) (.c (.q 9 [] (.mv (.t 0))) (.c (.q 10 [] (.bin .mul (.t 8) (.t 9))) (.c (.q 3 [] (.mv (.t 10))) .nil)))))) t_sl1Fact_2)
theorem u_sl1Fact_3 (P : Program) (k : KT) (e : Env) (w : World) : vcK P t_sl1Fact_3 k e w = vcK P (.seq (.blk 1 (.reg [0, 3] (.c (.q 8 [] (.mv (.t 3))) (.c (.q 9 [] (.mv (.t 0))) (.c (.q 10 [] (.bin .mul (.t 8) (.t 9))) (.c (.q 3 [] (.mv (.t 10))) .nil)))))) t_sl1Fact_2) k e w := rfl
def t_sl1Fact_4 : X := (.seq (.seq (.reg [0, 3, 5] (.c (.q 4 [] (.mv (.t 0))) (.c (.q 5 [] (.bin .gtr (.t 4) (.c (.int .i64 1)))) .nil))) t_sl1Fact_1) t_sl1Fact_3)
theorem u_sl1Fact_4 (P : Program) (k : KT) (e : Env) (w : World) : vcK P t_sl1Fact_4 k e w = vcK P (.seq (.seq (.reg [0, 3, 5] (.c (.q 4 [] (.mv (.t 0))) (.c (.q 5 [] (.bin .gtr (.t 4) (.c (.int .i64 1)))) .nil))) t_sl1Fact_1) t_sl1Fact_3) k e w := rfl
def t_sl1Fact_5 : X := (.seq (.reg [2] (.c (.q 11 [] (.mv (.t 3))) (.c (.q 2 [] (.mv (.t 11))) .nil))) .ret)
theorem u_sl1Fact_5 (P : Program) (k : KT) (e : Env) (w : World) : vcK P t_sl1Fact_5 k e w = vcK P (.seq (.reg [2] (.c (.q 11 [] (.mv (.t 3))) (.c (.q 2 [] (.mv (.t 11))) .nil))) .ret) k e w := rfl
def t_sl1Fact_6 : X := (.seq (.blk 0 (.loop [0, 3] [] t_sl1Fact_4)) t_sl1Fact_5)
theorem u_sl1Fact_6 (P : Program) (k : KT) (e : Env) (w : World) : vcK P t_sl1Fact_6 k e w = vcK P (.seq (.blk 0 (.loop [0, 3] [] t_sl1Fact_4)) t_sl1Fact_5) k e w := rfl
def t_sl1Fact_7 : X := (.seq (.reg [0, 3] (.c (.q 3 [] (.mv (.c (.int .i64 1)))) .nil)) t_sl1Fact_6)
theorem u_sl1Fact_7 (P : Program) (k : KT) (e : Env) (w : World) : vcK P t_sl1Fact_7 k e w = vcK P (.seq (.reg [0, 3] (.c (.q 3 [] (.mv (.c (.int .i64 1)))) .nil)) t_sl1Fact_6) k e w := rfl
def x_sl1Fact : X := (.seq (.reg [0] (.c (.q 2 [] (.mv (.c (.int .i64 0)))) .nil)) t_sl1Fact_7)
theorem u_sl1Fact (P : Program) (k : KT) (e : Env) (w : World) : vcK P x_sl1Fact k e w = vcK P (.seq (.reg [0] (.c (.q 2 [] (.mv (.c (.int .i64 0)))) .nil)) t_sl1Fact_7) k e w := rfl
def r_sl1Fact : List XO := [(.mv (.t 2))]
theorem c_sl1Fact : convF Try.prog [95, 96, 97, 107, 117, 118, 128, 129, 134, 144, 145, 153, 156, 174, 175, 182] Try.f88 [([0], []), ([0, 3], []), ([0, 3], []), ([0, 3, 5], []), ([0, 3], []), ([0, 3], []), ([2], [])] = some (x_sl1Fact, r_sl1Fact) := by kernel_rfl
def us_sl1Fact := And.intro @u_sl1Fact (And.intro @u_sl1Fact_1 (And.intro @u_sl1Fact_2 (And.intro @u_sl1Fact_3 (And.intro @u_sl1Fact_4 (And.intro @u_sl1Fact_5 (And.intro @u_sl1Fact_6 @u_sl1Fact_7))))))
def t_irowOf_1 : X := (.cond (.t 16) .skip (.exit 0))
theorem u_irowOf_1 (P : Program) (k : KT) (e : Env) (w : World) : vcK P t_irowOf_1 k e w = vcK P (.cond (.t 16) .skip (.exit 0)) k e w := rfl
def t_irowOf_2 : X := (.drw [1, 5, 6, 7] (.c (.q 35 [] (.mv (.t 5))) (.c (.q 36 [] (.mv (.t 9))) (.c (.q 37 [] (.ssl 1 (.t 35) none (some (.t 36)))) (.c (.q 38 [] (.mv (.t 5))) (.c (.q 39 [] (.mv (.t 9))) (.c (.q 40 [] (.bin .add (.t 39) (.c (.int .i64 1)))) (.c (.q 41 [] (.ssl 1 (.t 38) (some (.t 40)) none)) (.c (.e (some 42) [] (.app 28 5 1 1 [(.int .u8 0)] 28 (.t 37) (.t 41))) (.c (.q 5 [] (.mv (.t 42))) .nil))))))))))
theorem u_irowOf_2 (P : Program) (k : KT) (e : Env) (w : World) : vcK P t_irowOf_2 k e w = vcK P (.drw [1, 5, 6, 7] (.c (.q 35 [] (.mv (.t 5))) (.c (.q 36 [] (.mv (.t 9))) (.c (.q 37 [] (.ssl 1 (.t 35) none (some (.t 36)))) (.c (.q 38 [] (.mv (.t 5))) (.c (.q 39 [] (.mv (.t 9))) (.c (.q 40 [] (.bin .add (.t 39) (.c (.int .i64 1)))) (.c (.q 41 [] (.ssl 1 (.t 38) (some (.t 40)) none)) (.c (.e (some 42) [] (.app 28 5 1 1 [(.int .u8 0)] 28 (.t 37) (.t 41))) (.c (.q 5 [] (.mv (.t 42))) .nil)))))))))) k e w := rfl
def t_irowOf_3 : X := (.seq (.reg [1, 5, 6, 7, 9] (.c (.q 28 [] (.mv (.t 6))) (.c (.q 29 [] (.mv (.t 5))) (.c (.q 30 [] (.mv (.t 9))) (.c (.q 31 [] (.ia 1 (.t 29) (.t 30))) (.c (.q 32 [] (.ld (.t 31))) (.c (.e (some 33) [] (.bsl 5 1 [(.t 32)])) (.c (.e (some 34) [] (.app 28 5 1 1 [(.int .u8 0)] 28 (.t 28) (.t 33))) (.c (.q 6 [] (.mv (.t 34))) .nil))))))))) t_irowOf_2)
theorem u_irowOf_3 (P : Program) (k : KT) (e : Env) (w : World) : vcK P t_irowOf_3 k e w = vcK P (.seq (.reg [1, 5, 6, 7, 9] (.c (.q 28 [] (.mv (.t 6))) (.c (.q 29 [] (.mv (.t 5))) (.c (.q 30 [] (.mv (.t 9))) (.c (.q 31 [] (.ia 1 (.t 29) (.t 30))) (.c (.q 32 [] (.ld (.t 31))) (.c (.e (some 33) [] (.bsl 5 1 [(.t 32)])) (.c (.e (some 34) [] (.app 28 5 1 1 [(.int .u8 0)] 28 (.t 28) (.t 33))) (.c (.q 6 [] (.mv (.t 34))) .nil))))))))) t_irowOf_2) k e w := rfl
def t_irowOf_4 : X := (.seq (.reg [1, 5, 6, 7, 9] (.c (.q 25 [] (.mv (.t 1))) (.c (.q 26 [] (.mv (.t 8))) (.c (.q 27 [] (.bin .rem (.t 25) (.t 26))) (.c (.q 1 [] (.mv (.t 27))) .nil))))) t_irowOf_3)
theorem u_irowOf_4 (P : Program) (k : KT) (e : Env) (w : World) : vcK P t_irowOf_4 k e w = vcK P (.seq (.reg [1, 5, 6, 7, 9] (.c (.q 25 [] (.mv (.t 1))) (.c (.q 26 [] (.mv (.t 8))) (.c (.q 27 [] (.bin .rem (.t 25) (.t 26))) (.c (.q 1 [] (.mv (.t 27))) .nil))))) t_irowOf_3) k e w := rfl
def t_irowOf_5 : X := (.seq (.reg [1, 5, 6, 7, 8, 9] (.c (.q 22 [] (.mv (.t 1))) (.c (.q 23 [] (.mv (.t 8))) (.c (.q 24 [] (.bin .quo (.t 22) (.t 23))) (.c (.q 9 [] (.mv (.t 24))) .nil))))) t_irowOf_4)
theorem u_irowOf_5 (P : Program) (k : KT) (e : Env) (w : World) : vcK P t_irowOf_5 k e w = vcK P (.seq (.reg [1, 5, 6, 7, 8, 9] (.c (.q 22 [] (.mv (.t 1))) (.c (.q 23 [] (.mv (.t 8))) (.c (.q 24 [] (.bin .quo (.t 22) (.t 23))) (.c (.q 9 [] (.mv (.t 24))) .nil))))) t_irowOf_4) k e w := rfl
def t_irowOf_6 : X := (.reg [1, 5, 6, 7] (.c (.q 17 [] (.mv (.t 7))) (.c (.q 18 [] (.bin .sub (.t 17) (.c (.int .i64 1)))) (.c (.q 7 [] (.mv (.t 18))) .nil))))
theorem u_irowOf_6 (P : Program) (k : KT) (e : Env) (w : World) : vcK P t_irowOf_6 k e w = vcK P (.reg [1, 5, 6, 7] (.c (.q 17 [] (.mv (.t 7))) (.c (.q 18 [] (.bin .sub (.t 17) (.c (.int .i64 1)))) (.c (.q 7 [] (.mv (.t 18))) .nil)))) k e w := rfl
def t_irowOf_7 : X := (.seq (.blk 1 (.seq (.reg [1, 5, 6, 7, 8] (.c (.q 19 [] (.mv (.t 7))) (.c (.q 20 [] (.bin .sub (.t 19) (.c (.int .i64 1)))) (.c (.e (some 21) [] (.call false 91 [(.t 20)])) (.c (.q 8 [] (.mv (.t 21))) .nil))))) t_irowOf_5)) t_irowOf_6)
theorem u_irowOf_7 (P : Program) (k : KT) (e : Env) (w : World) : vcK P t_irowOf_7 k e w = vcK P (.seq (.blk 1 (.seq (.reg [1, 5, 6, 7, 8] (.c (.q 19 [] (.mv (.t 7))) (.c (.q 20 [] (.bin .sub (.t 19) (.c (.int .i64 1)))) (.c (.e (some 21) [] (.call false 91 [(.t 20)])) (.c (.q 8 [] (.mv (.t 21))) .nil))))) t_irowOf_5)) t_irowOf_6) k e w := rfl
def t_irowOf_8 : X := (.seq (.seq (.reg [1, 5, 6, 7, 16] (.c (.q 15 [] (.mv (.t 7))) (.c (.q 16 [] (.bin .gtr (.t 15) (.c (.int .i64 0)))) .nil))) t_irowOf_1) t_irowOf_7)
theorem u_irowOf_8 (P : Program) (k : KT) (e : Env) (w : World) : vcK P t_irowOf_8 k e w = vcK P (.seq (.seq (.reg [1, 5, 6, 7, 16] (.c (.q 15 [] (.mv (.t 7))) (.c (.q 16 [] (.bin .gtr (.t 15) (.c (.int .i64 0)))) .nil))) t_irowOf_1) t_irowOf_7) k e w := rfl
def t_irowOf_9 : X := (.blk 0 (.loop [1, 5, 6, 7] [] t_irowOf_8))
theorem u_irowOf_9 (P : Program) (k : KT) (e : Env) (w : World) : vcK P t_irowOf_9 k e w = vcK P (.blk 0 (.loop [1, 5, 6, 7] [] t_irowOf_8)) k e w := rfl
def t_irowOf_10 : X := (.seq (.reg [4] (.c (.q 43 [] (.mv (.t 6))) (.c (.e (some 44) [] (.b2s (.t 43))) (.c (.q 4 [] (.mv (.t 44))) .nil)))) .ret)
theorem u_irowOf_10 (P : Program) (k : KT) (e : Env) (w : World) : vcK P t_irowOf_10 k e w = vcK P (.seq (.reg [4] (.c (.q 43 [] (.mv (.t 6))) (.c (.e (some 44) [] (.b2s (.t 43))) (.c (.q 4 [] (.mv (.t 44))) .nil)))) .ret) k e w := rfl
def t_irowOf_11 : X := (.seq (.seq (.reg [1, 5, 6, 7] (.c (.q 14 [] (.mv (.t 0))) (.c (.q 7 [] (.mv (.t 14))) .nil))) t_irowOf_9) t_irowOf_10)
theorem u_irowOf_11 (P : Program) (k : KT) (e : Env) (w : World) : vcK P t_irowOf_11 k e w = vcK P (.seq (.seq (.reg [1, 5, 6, 7] (.c (.q 14 [] (.mv (.t 0))) (.c (.q 7 [] (.mv (.t 14))) .nil))) t_irowOf_9) t_irowOf_10) k e w := rfl
def t_irowOf_12 : X := (.seq (.reg [0, 1, 5, 6] (.c (.e (some 13) [] (.bsl 5 1 [])) (.c (.q 6 [] (.mv (.t 13))) .nil))) t_irowOf_11)
theorem u_irowOf_12 (P : Program) (k : KT) (e : Env) (w : World) : vcK P t_irowOf_12 k e w = vcK P (.seq (.reg [0, 1, 5, 6] (.c (.e (some 13) [] (.bsl 5 1 [])) (.c (.q 6 [] (.mv (.t 13))) .nil))) t_irowOf_11) k e w := rfl
def t_irowOf_13 : X := (.seq (.reg [0, 1, 5] (.c (.q 10 [] (.mv (.t 0))) (.c (.e (some 11) [] (.call false 104 [(.t 10)])) (.c (.e (some 12) [] (.s2b 5 (.t 11))) (.c (.q 5 [] (.mv (.t 12))) .nil))))) t_irowOf_12)
theorem u_irowOf_13 (P : Program) (k : KT) (e : Env) (w : World) : vcK P t_irowOf_13 k e w = vcK P (.seq (.reg [0, 1, 5] (.c (.q 10 [] (.mv (.t 0))) (.c (.e (some 11) [] (.call false 104 [(.t 10)])) (.c (.e (some 12) [] (.s2b 5 (.t 11))) (.c (.q 5 [] (.mv (.t 12))) .nil))))) t_irowOf_12) k e w := rfl
def x_irowOf : X := (.seq (.reg [0, 1] (.c (.q 4 [] (.mv (.s []))) .nil)) t_irowOf_13)
theorem u_irowOf (P : Program) (k : KT) (e : Env) (w : World) : vcK P x_irowOf k e w = vcK P (.seq (.reg [0, 1] (.c (.q 4 [] (.mv (.s []))) .nil)) t_irowOf_13) k e w := rfl
def r_irowOf : List XO := [(.mv (.t 4))]
theorem c_irowOf : convF Try.prog [95, 96, 97, 107, 117, 118, 128, 129, 134, 144, 145, 153, 156, 174, 175, 182] Try.f92 [([0, 1], []), ([0, 1, 5], []), ([0, 1, 5, 6], []), ([1, 5, 6, 7], []), ([1, 5, 6, 7], []), ([1, 5, 6, 7, 16], []), ([1, 5, 6, 7, 8], []), ([1, 5, 6, 7, 8, 9], []), ([1, 5, 6, 7, 9], []), ([1, 5, 6, 7, 9], []), ([1, 5, 6, 7], []), ([1, 5, 6, 7], []), ([4], [])] = some (x_irowOf, r_irowOf) := by kernel_rfl
def us_irowOf := And.intro @u_irowOf (And.intro @u_irowOf_1 (And.intro @u_irowOf_2 (And.intro @u_irowOf_3 (And.intro @u_irowOf_4 (And.intro @u_irowOf_5 (And.intro @u_irowOf_6 (And.intro @u_irowOf_7 (And.intro @u_irowOf_8 (And.intro @u_irowOf_9 (And.intro @u_irowOf_10 (And.intro @u_irowOf_11 (And.intro @u_irowOf_12 @u_irowOf_13))))))))))))
def t_sRowOf_1 : X := (.cond (.t 20) (.seq (.reg [4, 5] (.c (.q 4 [] (.mv (.s []))) (.c (.q 5 [] (.mv (.c (.bool false)))) .nil))) .ret) .skip)
theorem u_sRowOf_1 (P : Program) (k : KT) (e : Env) (w : World) : vcK P t_sRowOf_1 k e w = vcK P (.cond (.t 20) (.seq (.reg [4, 5] (.c (.q 4 [] (.mv (.s []))) (.c (.q 5 [] (.mv (.c (.bool false)))) .nil))) .ret) .skip) k e w := rfl
def t_sRowOf_2 : X := (.cond (.t 25) .skip (.exit 0))
theorem u_sRowOf_2 (P : Program) (k : KT) (e : Env) (w : World) : vcK P t_sRowOf_2 k e w = vcK P (.cond (.t 25) .skip (.exit 0)) k e w := rfl
def t_sRowOf_3 : X := (.drw [1, 6, 7] (.c (.q 43 [] (.mv (.t 6))) (.c (.q 44 [] (.mv (.t 9))) (.c (.q 45 [] (.sub (.t 43) none (some (.t 44)))) (.c (.q 46 [] (.mv (.t 6))) (.c (.q 47 [] (.mv (.t 9))) (.c (.q 48 [] (.bin .add (.t 47) (.c (.int .i64 1)))) (.c (.q 49 [] (.sub (.t 46) (some (.t 48)) none)) (.c (.q 50 [] (.bin .add (.t 45) (.t 49))) (.c (.q 6 [] (.mv (.t 50))) .nil))))))))))
theorem u_sRowOf_3 (P : Program) (k : KT) (e : Env) (w : World) : vcK P t_sRowOf_3 k e w = vcK P (.drw [1, 6, 7] (.c (.q 43 [] (.mv (.t 6))) (.c (.q 44 [] (.mv (.t 9))) (.c (.q 45 [] (.sub (.t 43) none (some (.t 44)))) (.c (.q 46 [] (.mv (.t 6))) (.c (.q 47 [] (.mv (.t 9))) (.c (.q 48 [] (.bin .add (.t 47) (.c (.int .i64 1)))) (.c (.q 49 [] (.sub (.t 46) (some (.t 48)) none)) (.c (.q 50 [] (.bin .add (.t 45) (.t 49))) (.c (.q 6 [] (.mv (.t 50))) .nil)))))))))) k e w := rfl
def t_sRowOf_4 : X := (.seq (.reg [1, 6, 7, 9] (.c (.q 36 [] (.mv (.t 7))) (.c (.q 37 [] (.mv (.t 6))) (.c (.q 38 [] (.mv (.t 9))) (.c (.q 39 [] (.mv (.t 9))) (.c (.q 40 [] (.bin .add (.t 39) (.c (.int .i64 1)))) (.c (.q 41 [] (.sub (.t 37) (some (.t 38)) (some (.t 40)))) (.c (.q 42 [] (.bin .add (.t 36) (.t 41))) (.c (.q 7 [] (.mv (.t 42))) .nil))))))))) t_sRowOf_3)
theorem u_sRowOf_4 (P : Program) (k : KT) (e : Env) (w : World) : vcK P t_sRowOf_4 k e w = vcK P (.seq (.reg [1, 6, 7, 9] (.c (.q 36 [] (.mv (.t 7))) (.c (.q 37 [] (.mv (.t 6))) (.c (.q 38 [] (.mv (.t 9))) (.c (.q 39 [] (.mv (.t 9))) (.c (.q 40 [] (.bin .add (.t 39) (.c (.int .i64 1)))) (.c (.q 41 [] (.sub (.t 37) (some (.t 38)) (some (.t 40)))) (.c (.q 42 [] (.bin .add (.t 36) (.t 41))) (.c (.q 7 [] (.mv (.t 42))) .nil))))))))) t_sRowOf_3) k e w := rfl
def t_sRowOf_5 : X := (.seq (.reg [1, 6, 7, 9] (.c (.q 33 [] (.mv (.t 1))) (.c (.q 34 [] (.mv (.t 8))) (.c (.q 35 [] (.bin .rem (.t 33) (.t 34))) (.c (.q 1 [] (.mv (.t 35))) .nil))))) t_sRowOf_4)
theorem u_sRowOf_5 (P : Program) (k : KT) (e : Env) (w : World) : vcK P t_sRowOf_5 k e w = vcK P (.seq (.reg [1, 6, 7, 9] (.c (.q 33 [] (.mv (.t 1))) (.c (.q 34 [] (.mv (.t 8))) (.c (.q 35 [] (.bin .rem (.t 33) (.t 34))) (.c (.q 1 [] (.mv (.t 35))) .nil))))) t_sRowOf_4) k e w := rfl
def t_sRowOf_6 : X := (.seq (.reg [1, 6, 7, 8, 9] (.c (.q 30 [] (.mv (.t 1))) (.c (.q 31 [] (.mv (.t 8))) (.c (.q 32 [] (.bin .quo (.t 30) (.t 31))) (.c (.q 9 [] (.mv (.t 32))) .nil))))) t_sRowOf_5)
theorem u_sRowOf_6 (P : Program) (k : KT) (e : Env) (w : World) : vcK P t_sRowOf_6 k e w = vcK P (.seq (.reg [1, 6, 7, 8, 9] (.c (.q 30 [] (.mv (.t 1))) (.c (.q 31 [] (.mv (.t 8))) (.c (.q 32 [] (.bin .quo (.t 30) (.t 31))) (.c (.q 9 [] (.mv (.t 32))) .nil))))) t_sRowOf_5) k e w := rfl
def t_sRowOf_7 : X := (.blk 1 (.seq (.reg [1, 6, 7, 8] (.c (.q 26 [] (.mv (.t 6))) (.c (.q 27 [] (.len (.t 26))) (.c (.q 28 [] (.bin .sub (.t 27) (.c (.int .i64 1)))) (.c (.e (some 29) [] (.call false 88 [(.t 28)])) (.c (.q 8 [] (.mv (.t 29))) .nil)))))) t_sRowOf_6))
theorem u_sRowOf_7 (P : Program) (k : KT) (e : Env) (w : World) : vcK P t_sRowOf_7 k e w = vcK P (.blk 1 (.seq (.reg [1, 6, 7, 8] (.c (.q 26 [] (.mv (.t 6))) (.c (.q 27 [] (.len (.t 26))) (.c (.q 28 [] (.bin .sub (.t 27) (.c (.int .i64 1)))) (.c (.e (some 29) [] (.call false 88 [(.t 28)])) (.c (.q 8 [] (.mv (.t 29))) .nil)))))) t_sRowOf_6)) k e w := rfl
def t_sRowOf_8 : X := (.seq (.seq (.reg [1, 6, 7, 25] (.c (.q 23 [] (.mv (.t 6))) (.c (.q 24 [] (.len (.t 23))) (.c (.q 25 [] (.bin .gtr (.t 24) (.c (.int .i64 0)))) .nil)))) t_sRowOf_2) t_sRowOf_7)
theorem u_sRowOf_8 (P : Program) (k : KT) (e : Env) (w : World) : vcK P t_sRowOf_8 k e w = vcK P (.seq (.seq (.reg [1, 6, 7, 25] (.c (.q 23 [] (.mv (.t 6))) (.c (.q 24 [] (.len (.t 23))) (.c (.q 25 [] (.bin .gtr (.t 24) (.c (.int .i64 0)))) .nil)))) t_sRowOf_2) t_sRowOf_7) k e w := rfl
def t_sRowOf_9 : X := (.seq (.reg [4, 5] (.c (.q 51 [] (.mv (.t 7))) (.c (.q 4 [] (.mv (.t 51))) (.c (.q 5 [] (.mv (.c (.bool true)))) .nil)))) .ret)
theorem u_sRowOf_9 (P : Program) (k : KT) (e : Env) (w : World) : vcK P t_sRowOf_9 k e w = vcK P (.seq (.reg [4, 5] (.c (.q 51 [] (.mv (.t 7))) (.c (.q 4 [] (.mv (.t 51))) (.c (.q 5 [] (.mv (.c (.bool true)))) .nil)))) .ret) k e w := rfl
def t_sRowOf_10 : X := (.seq (.blk 0 (.loop [1, 6, 7] [] t_sRowOf_8)) t_sRowOf_9)
theorem u_sRowOf_10 (P : Program) (k : KT) (e : Env) (w : World) : vcK P t_sRowOf_10 k e w = vcK P (.seq (.blk 0 (.loop [1, 6, 7] [] t_sRowOf_8)) t_sRowOf_9) k e w := rfl
def t_sRowOf_11 : X := (.seq (.reg [1, 6, 7] (.c (.q 7 [] (.mv (.s []))) .nil)) t_sRowOf_10)
theorem u_sRowOf_11 (P : Program) (k : KT) (e : Env) (w : World) : vcK P t_sRowOf_11 k e w = vcK P (.seq (.reg [1, 6, 7] (.c (.q 7 [] (.mv (.s []))) .nil)) t_sRowOf_10) k e w := rfl
def t_sRowOf_12 : X := (.seq (.reg [1, 6] (.c (.q 21 [] (.mv (.t 0))) (.c (.e (some 22) [] (.call false 108 [(.t 21)])) (.c (.q 6 [] (.mv (.t 22))) .nil)))) t_sRowOf_11)
theorem u_sRowOf_12 (P : Program) (k : KT) (e : Env) (w : World) : vcK P t_sRowOf_12 k e w = vcK P (.seq (.reg [1, 6] (.c (.q 21 [] (.mv (.t 0))) (.c (.e (some 22) [] (.call false 108 [(.t 21)])) (.c (.q 6 [] (.mv (.t 22))) .nil)))) t_sRowOf_11) k e w := rfl
def t_sRowOf_13 : X := (.seq (.seq (.reg [0, 1, 20] (.c (.q 10 [] (.mv (.t 0))) (.c (.e (some 11) [] (.call false 87 [(.t 10), (.c (.int .i64 3)), (.c (.int .i64 8))])) (.c (.q 12 [] (.not (.t 11))) (.c (.q 13 [] (.mv (.t 12))) (.c (.q 14 [(13, false)] (.mv (.t 1))) (.c (.q 15 [(13, false)] (.mv (.t 0))) (.c (.e (some 16) [(13, false)] (.call false 88 [(.t 15)])) (.c (.q 17 [(13, false)] (.bin .sub (.t 16) (.c (.int .i64 1)))) (.c (.e (some 18) [(13, false)] (.call false 87 [(.t 14), (.c (.int .i64 0)), (.t 17)])) (.c (.q 19 [(13, false)] (.not (.t 18))) (.c (.q 20 [] (.pick (.t 13) (.c (.bool true)) (.t 19))) .nil)))))))))))) t_sRowOf_1) t_sRowOf_12)
theorem u_sRowOf_13 (P : Program) (k : KT) (e : Env) (w : World) : vcK P t_sRowOf_13 k e w = vcK P (.seq (.seq (.reg [0, 1, 20] (.c (.q 10 [] (.mv (.t 0))) (.c (.e (some 11) [] (.call false 87 [(.t 10), (.c (.int .i64 3)), (.c (.int .i64 8))])) (.c (.q 12 [] (.not (.t 11))) (.c (.q 13 [] (.mv (.t 12))) (.c (.q 14 [(13, false)] (.mv (.t 1))) (.c (.q 15 [(13, false)] (.mv (.t 0))) (.c (.e (some 16) [(13, false)] (.call false 88 [(.t 15)])) (.c (.q 17 [(13, false)] (.bin .sub (.t 16) (.c (.int .i64 1)))) (.c (.e (some 18) [(13, false)] (.call false 87 [(.t 14), (.c (.int .i64 0)), (.t 17)])) (.c (.q 19 [(13, false)] (.not (.t 18))) (.c (.q 20 [] (.pick (.t 13) (.c (.bool true)) (.t 19))) .nil)))))))))))) t_sRowOf_1) t_sRowOf_12) k e w := rfl
def x_sRowOf : X := (.seq (.reg [0, 1] (.c (.q 4 [] (.mv (.s []))) (.c (.q 5 [] (.mv (.c (.bool false)))) .nil))) t_sRowOf_13)
theorem u_sRowOf (P : Program) (k : KT) (e : Env) (w : World) : vcK P x_sRowOf k e w = vcK P (.seq (.reg [0, 1] (.c (.q 4 [] (.mv (.s []))) (.c (.q 5 [] (.mv (.c (.bool false)))) .nil))) t_sRowOf_13) k e w := rfl
def r_sRowOf : List XO := [(.mv (.t 4)), (.mv (.t 5))]
theorem c_sRowOf : convF Try.prog [95, 96, 97, 107, 117, 118, 128, 129, 134, 144, 145, 153, 156, 174, 175, 182] Try.f48 [([0, 1], []), ([0, 1, 20], []), ([4, 5], []), ([1, 6], []), ([1, 6, 7], []), ([1, 6, 7], []), ([1, 6, 7, 25], []), ([1, 6, 7, 8], []), ([1, 6, 7, 8, 9], []), ([1, 6, 7, 9], []), ([1, 6, 7, 9], []), ([1, 6, 7], []), ([4, 5], [])] = some (x_sRowOf, r_sRowOf) := by kernel_rfl
def us_sRowOf := And.intro @u_sRowOf (And.intro @u_sRowOf_1 (And.intro @u_sRowOf_2 (And.intro @u_sRowOf_3 (And.intro @u_sRowOf_4 (And.intro @u_sRowOf_5 (And.intro @u_sRowOf_6 (And.intro @u_sRowOf_7 (And.intro @u_sRowOf_8 (And.intro @u_sRowOf_9 (And.intro @u_sRowOf_10 (And.intro @u_sRowOf_11 (And.intro @u_sRowOf_12 @u_sRowOf_13))))))))))))
def t_iRowsThatFit_1 : X := (.cond (.t 16) (.seq (.reg [4, 5] (.c (.q 4 [] (.mv (.c (.slice none 0 0)))) (.c (.q 5 [] (.mv (.c (.bool false)))) .nil))) .ret) .skip)
theorem u_iRowsThatFit_1 (P : Program) (k : KT) (e : Env) (w : World) : vcK P t_iRowsThatFit_1 k e w = vcK P (.cond (.t 16) (.seq (.reg [4, 5] (.c (.q 4 [] (.mv (.c (.slice none 0 0)))) (.c (.q 5 [] (.mv (.c (.bool false)))) .nil))) .ret) .skip) k e w := rfl
def t_iRowsThatFit_2 : X := (.cond (.t 28) (.reg [0, 1, 6, 19, 20] (.c (.q 29 [] (.mv (.t 6))) (.c (.q 30 [] (.mv (.t 8))) (.c (.e (some 31) [] (.bsl 9 1 [(.t 30)])) (.c (.e (some 32) [] (.app 22 9 1 16 [(S [])] 22 (.t 29) (.t 31))) (.c (.q 6 [] (.mv (.t 32))) .nil)))))) .skip)
theorem u_iRowsThatFit_2 (P : Program) (k : KT) (e : Env) (w : World) : vcK P t_iRowsThatFit_2 k e w = vcK P (.cond (.t 28) (.reg [0, 1, 6, 19, 20] (.c (.q 29 [] (.mv (.t 6))) (.c (.q 30 [] (.mv (.t 8))) (.c (.e (some 31) [] (.bsl 9 1 [(.t 30)])) (.c (.e (some 32) [] (.app 22 9 1 16 [(S [])] 22 (.t 29) (.t 31))) (.c (.q 6 [] (.mv (.t 32))) .nil)))))) .skip) k e w := rfl
def t_iRowsThatFit_3 : X := (.seq (.reg [0, 1, 6, 8, 19, 20, 28] (.c (.q 26 [] (.mv (.t 0))) (.c (.q 27 [] (.mv (.t 8))) (.c (.e (some 28) [] (.call false 93 [(.t 26), (.t 27)])) .nil)))) t_iRowsThatFit_2)
theorem u_iRowsThatFit_3 (P : Program) (k : KT) (e : Env) (w : World) : vcK P t_iRowsThatFit_3 k e w = vcK P (.seq (.reg [0, 1, 6, 8, 19, 20, 28] (.c (.q 26 [] (.mv (.t 0))) (.c (.q 27 [] (.mv (.t 8))) (.c (.e (some 28) [] (.call false 93 [(.t 26), (.t 27)])) .nil)))) t_iRowsThatFit_2) k e w := rfl
def t_iRowsThatFit_4 : X := (.seq (.reg [0, 1, 6, 8, 19, 20] (.c (.q 23 [] (.mv (.t 1))) (.c (.q 24 [] (.mv (.t 7))) (.c (.e (some 25) [] (.call false 92 [(.t 23), (.t 24)])) (.c (.q 8 [] (.mv (.t 25))) .nil))))) t_iRowsThatFit_3)
theorem u_iRowsThatFit_4 (P : Program) (k : KT) (e : Env) (w : World) : vcK P t_iRowsThatFit_4 k e w = vcK P (.seq (.reg [0, 1, 6, 8, 19, 20] (.c (.q 23 [] (.mv (.t 1))) (.c (.q 24 [] (.mv (.t 7))) (.c (.e (some 25) [] (.call false 92 [(.t 23), (.t 24)])) (.c (.q 8 [] (.mv (.t 25))) .nil))))) t_iRowsThatFit_3) k e w := rfl
def t_iRowsThatFit_5 : X := (.reg [0, 1, 6, 19, 20] (.c (.q 33 [] (.bin .add (.t 20) (.c (.int .i64 1)))) (.c (.q 20 [] (.mv (.t 33))) .nil)))
theorem u_iRowsThatFit_5 (P : Program) (k : KT) (e : Env) (w : World) : vcK P t_iRowsThatFit_5 k e w = vcK P (.reg [0, 1, 6, 19, 20] (.c (.q 33 [] (.bin .add (.t 20) (.c (.int .i64 1)))) (.c (.q 20 [] (.mv (.t 33))) .nil))) k e w := rfl
def t_iRowsThatFit_6 : X := (.seq (.blk 1 (.seq (.reg [0, 1, 6, 7, 19, 20] (.c (.q 22 [] (.mv (.t 20))) (.c (.q 7 [] (.mv (.t 22))) .nil))) t_iRowsThatFit_4)) t_iRowsThatFit_5)
theorem u_iRowsThatFit_6 (P : Program) (k : KT) (e : Env) (w : World) : vcK P t_iRowsThatFit_6 k e w = vcK P (.seq (.blk 1 (.seq (.reg [0, 1, 6, 7, 19, 20] (.c (.q 22 [] (.mv (.t 20))) (.c (.q 7 [] (.mv (.t 22))) .nil))) t_iRowsThatFit_4)) t_iRowsThatFit_5) k e w := rfl
def t_iRowsThatFit_7 : X := (.seq (.cond (.t 21) .skip (.exit 0)) t_iRowsThatFit_6)
theorem u_iRowsThatFit_7 (P : Program) (k : KT) (e : Env) (w : World) : vcK P t_iRowsThatFit_7 k e w = vcK P (.seq (.cond (.t 21) .skip (.exit 0)) t_iRowsThatFit_6) k e w := rfl
def t_iRowsThatFit_8 : X := (.seq (.reg [0, 1, 6, 19, 20, 21] (.c (.q 21 [] (.bin .lss (.t 20) (.t 19))) .nil)) t_iRowsThatFit_7)
theorem u_iRowsThatFit_8 (P : Program) (k : KT) (e : Env) (w : World) : vcK P t_iRowsThatFit_8 k e w = vcK P (.seq (.reg [0, 1, 6, 19, 20, 21] (.c (.q 21 [] (.bin .lss (.t 20) (.t 19))) .nil)) t_iRowsThatFit_7) k e w := rfl
def t_iRowsThatFit_9 : X := (.blk 0 (.loop [6, 20] [0, 1, 19] t_iRowsThatFit_8))
theorem u_iRowsThatFit_9 (P : Program) (k : KT) (e : Env) (w : World) : vcK P t_iRowsThatFit_9 k e w = vcK P (.blk 0 (.loop [6, 20] [0, 1, 19] t_iRowsThatFit_8)) k e w := rfl
def t_iRowsThatFit_10 : X := (.seq (.reg [4, 5] (.c (.q 34 [] (.mv (.t 6))) (.c (.q 4 [] (.mv (.t 34))) (.c (.q 5 [] (.mv (.c (.bool true)))) .nil)))) .ret)
theorem u_iRowsThatFit_10 (P : Program) (k : KT) (e : Env) (w : World) : vcK P t_iRowsThatFit_10 k e w = vcK P (.seq (.reg [4, 5] (.c (.q 34 [] (.mv (.t 6))) (.c (.q 4 [] (.mv (.t 34))) (.c (.q 5 [] (.mv (.c (.bool true)))) .nil)))) .ret) k e w := rfl
def t_iRowsThatFit_11 : X := (.seq (.seq (.reg [0, 1, 6, 19, 20] (.c (.q 18 [] (.mv (.t 1))) (.c (.e (some 19) [] (.call false 91 [(.t 18)])) (.c (.q 20 [] (.mv (.c (.int .i64 0)))) .nil)))) t_iRowsThatFit_9) t_iRowsThatFit_10)
theorem u_iRowsThatFit_11 (P : Program) (k : KT) (e : Env) (w : World) : vcK P t_iRowsThatFit_11 k e w = vcK P (.seq (.seq (.reg [0, 1, 6, 19, 20] (.c (.q 18 [] (.mv (.t 1))) (.c (.e (some 19) [] (.call false 91 [(.t 18)])) (.c (.q 20 [] (.mv (.c (.int .i64 0)))) .nil)))) t_iRowsThatFit_9) t_iRowsThatFit_10) k e w := rfl
def t_iRowsThatFit_12 : X := (.seq (.reg [0, 1, 6] (.c (.e (some 17) [] (.bsl 9 1 [])) (.c (.q 6 [] (.mv (.t 17))) .nil))) t_iRowsThatFit_11)
theorem u_iRowsThatFit_12 (P : Program) (k : KT) (e : Env) (w : World) : vcK P t_iRowsThatFit_12 k e w = vcK P (.seq (.reg [0, 1, 6] (.c (.e (some 17) [] (.bsl 9 1 [])) (.c (.q 6 [] (.mv (.t 17))) .nil))) t_iRowsThatFit_11) k e w := rfl
def t_iRowsThatFit_13 : X := (.seq (.seq (.reg [0, 1, 16] (.c (.q 9 [] (.mv (.t 0))) (.c (.e (some 10) [] (.call false 72 [(.t 9)])) (.c (.q 11 [] (.not (.t 10))) (.c (.q 12 [] (.mv (.t 11))) (.c (.q 13 [(12, false)] (.mv (.t 1))) (.c (.e (some 14) [(12, false)] (.call false 90 [(.t 13), (.c (.int .i64 3)), (.c (.int .i64 6))])) (.c (.q 15 [(12, false)] (.not (.t 14))) (.c (.q 16 [] (.pick (.t 12) (.c (.bool true)) (.t 15))) .nil))))))))) t_iRowsThatFit_1) t_iRowsThatFit_12)
theorem u_iRowsThatFit_13 (P : Program) (k : KT) (e : Env) (w : World) : vcK P t_iRowsThatFit_13 k e w = vcK P (.seq (.seq (.reg [0, 1, 16] (.c (.q 9 [] (.mv (.t 0))) (.c (.e (some 10) [] (.call false 72 [(.t 9)])) (.c (.q 11 [] (.not (.t 10))) (.c (.q 12 [] (.mv (.t 11))) (.c (.q 13 [(12, false)] (.mv (.t 1))) (.c (.e (some 14) [(12, false)] (.call false 90 [(.t 13), (.c (.int .i64 3)), (.c (.int .i64 6))])) (.c (.q 15 [(12, false)] (.not (.t 14))) (.c (.q 16 [] (.pick (.t 12) (.c (.bool true)) (.t 15))) .nil))))))))) t_iRowsThatFit_1) t_iRowsThatFit_12) k e w := rfl
def x_iRowsThatFit : X := (.seq (.reg [0, 1] (.c (.q 4 [] (.mv (.c (.slice none 0 0)))) (.c (.q 5 [] (.mv (.c (.bool false)))) .nil))) t_iRowsThatFit_13)
theorem u_iRowsThatFit (P : Program) (k : KT) (e : Env) (w : World) : vcK P x_iRowsThatFit k e w = vcK P (.seq (.reg [0, 1] (.c (.q 4 [] (.mv (.c (.slice none 0 0)))) (.c (.q 5 [] (.mv (.c (.bool false)))) .nil))) t_iRowsThatFit_13) k e w := rfl
def r_iRowsThatFit : List XO := [(.mv (.t 4)), (.mv (.t 5))]
theorem c_iRowsThatFit : convF Try.prog [95, 96, 97, 107, 117, 118, 128, 129, 134, 144, 145, 153, 156, 174, 175, 182] Try.f16 [([0, 1], []), ([0, 1, 16], []), ([4, 5], []), ([0, 1, 6], []), ([0, 1, 6, 19, 20], []), ([6, 20], [0, 1, 19]), ([0, 1, 6, 19, 20, 21], []), ([0, 1, 6, 7, 19, 20], []), ([0, 1, 6, 8, 19, 20], []), ([0, 1, 6, 8, 19, 20, 28], []), ([0, 1, 6, 19, 20], []), ([0, 1, 6, 19, 20], []), ([4, 5], [])] = some (x_iRowsThatFit, r_iRowsThatFit) := by kernel_rfl
def us_iRowsThatFit := And.intro @u_iRowsThatFit (And.intro @u_iRowsThatFit_1 (And.intro @u_iRowsThatFit_2 (And.intro @u_iRowsThatFit_3 (And.intro @u_iRowsThatFit_4 (And.intro @u_iRowsThatFit_5 (And.intro @u_iRowsThatFit_6 (And.intro @u_iRowsThatFit_7 (And.intro @u_iRowsThatFit_8 (And.intro @u_iRowsThatFit_9 (And.intro @u_iRowsThatFit_10 (And.intro @u_iRowsThatFit_11 (And.intro @u_iRowsThatFit_12 @u_iRowsThatFit_13))))))))))))
def t_sRowsThatFit_1 : X := (.cond (.t 17) (.seq (.reg [4, 5] (.c (.q 4 [] (.mv (.c (.slice none 0 0)))) (.c (.q 5 [] (.mv (.c (.bool false)))) .nil))) .ret) .skip)
theorem u_sRowsThatFit_1 (P : Program) (k : KT) (e : Env) (w : World) : vcK P t_sRowsThatFit_1 k e w = vcK P (.cond (.t 17) (.seq (.reg [4, 5] (.c (.q 4 [] (.mv (.c (.slice none 0 0)))) (.c (.q 5 [] (.mv (.c (.bool false)))) .nil))) .ret) .skip) k e w := rfl
def t_sRowsThatFit_2 : X := (.cond (.t 21) .skip (.exit 0))
theorem u_sRowsThatFit_2 (P : Program) (k : KT) (e : Env) (w : World) : vcK P t_sRowsThatFit_2 k e w = vcK P (.cond (.t 21) .skip (.exit 0)) k e w := rfl
def t_sRowsThatFit_3 : X := (.cond (.t 32) (.reg [0, 1, 6, 7] (.c (.q 33 [] (.mv (.t 6))) (.c (.q 34 [] (.mv (.t 8))) (.c (.e (some 35) [] (.bsl 9 1 [(.t 34)])) (.c (.e (some 36) [] (.app 22 9 1 16 [(S [])] 22 (.t 33) (.t 35))) (.c (.q 6 [] (.mv (.t 36))) .nil)))))) .skip)
theorem u_sRowsThatFit_3 (P : Program) (k : KT) (e : Env) (w : World) : vcK P t_sRowsThatFit_3 k e w = vcK P (.cond (.t 32) (.reg [0, 1, 6, 7] (.c (.q 33 [] (.mv (.t 6))) (.c (.q 34 [] (.mv (.t 8))) (.c (.e (some 35) [] (.bsl 9 1 [(.t 34)])) (.c (.e (some 36) [] (.app 22 9 1 16 [(S [])] 22 (.t 33) (.t 35))) (.c (.q 6 [] (.mv (.t 36))) .nil)))))) .skip) k e w := rfl
def t_sRowsThatFit_4 : X := (.seq (.reg [0, 1, 6, 7, 8, 32] (.c (.q 30 [] (.mv (.t 0))) (.c (.q 31 [] (.mv (.t 8))) (.c (.e (some 32) [] (.call false 89 [(.t 30), (.t 31)])) .nil)))) t_sRowsThatFit_3)
theorem u_sRowsThatFit_4 (P : Program) (k : KT) (e : Env) (w : World) : vcK P t_sRowsThatFit_4 k e w = vcK P (.seq (.reg [0, 1, 6, 7, 8, 32] (.c (.q 30 [] (.mv (.t 0))) (.c (.q 31 [] (.mv (.t 8))) (.c (.e (some 32) [] (.call false 89 [(.t 30), (.t 31)])) .nil)))) t_sRowsThatFit_3) k e w := rfl
def t_sRowsThatFit_5 : X := (.reg [0, 1, 6, 7] (.c (.q 22 [] (.mv (.t 7))) (.c (.q 23 [] (.bin .add (.t 22) (.c (.int .i64 1)))) (.c (.q 7 [] (.mv (.t 23))) .nil))))
theorem u_sRowsThatFit_5 (P : Program) (k : KT) (e : Env) (w : World) : vcK P t_sRowsThatFit_5 k e w = vcK P (.reg [0, 1, 6, 7] (.c (.q 22 [] (.mv (.t 7))) (.c (.q 23 [] (.bin .add (.t 22) (.c (.int .i64 1)))) (.c (.q 7 [] (.mv (.t 23))) .nil)))) k e w := rfl
def t_sRowsThatFit_6 : X := (.seq (.blk 1 (.seq (.reg [0, 1, 6, 7, 8] (.c (.q 25 [] (.mv (.t 1))) (.c (.q 26 [] (.mv (.t 7))) (.c (.e (some 27) [] (.call false 48 [(.t 25), (.t 26)])) (.c (.q 24 [] (.mv (.t 27))) (.c (.q 28 [] (.ext 0 (.t 24))) (.c (.q 29 [] (.ext 1 (.t 24))) (.c (.q 8 [] (.mv (.t 28))) (.c (.q 9 [] (.mv (.t 29))) .nil))))))))) t_sRowsThatFit_4)) t_sRowsThatFit_5)
theorem u_sRowsThatFit_6 (P : Program) (k : KT) (e : Env) (w : World) : vcK P t_sRowsThatFit_6 k e w = vcK P (.seq (.blk 1 (.seq (.reg [0, 1, 6, 7, 8] (.c (.q 25 [] (.mv (.t 1))) (.c (.q 26 [] (.mv (.t 7))) (.c (.e (some 27) [] (.call false 48 [(.t 25), (.t 26)])) (.c (.q 24 [] (.mv (.t 27))) (.c (.q 28 [] (.ext 0 (.t 24))) (.c (.q 29 [] (.ext 1 (.t 24))) (.c (.q 8 [] (.mv (.t 28))) (.c (.q 9 [] (.mv (.t 29))) .nil))))))))) t_sRowsThatFit_4)) t_sRowsThatFit_5) k e w := rfl
def t_sRowsThatFit_7 : X := (.seq (.seq (.reg [0, 1, 6, 7, 21] (.c (.q 18 [] (.mv (.t 7))) (.c (.q 19 [] (.mv (.t 1))) (.c (.e (some 20) [] (.call false 88 [(.t 19)])) (.c (.q 21 [] (.bin .lss (.t 18) (.t 20))) .nil))))) t_sRowsThatFit_2) t_sRowsThatFit_6)
theorem u_sRowsThatFit_7 (P : Program) (k : KT) (e : Env) (w : World) : vcK P t_sRowsThatFit_7 k e w = vcK P (.seq (.seq (.reg [0, 1, 6, 7, 21] (.c (.q 18 [] (.mv (.t 7))) (.c (.q 19 [] (.mv (.t 1))) (.c (.e (some 20) [] (.call false 88 [(.t 19)])) (.c (.q 21 [] (.bin .lss (.t 18) (.t 20))) .nil))))) t_sRowsThatFit_2) t_sRowsThatFit_6) k e w := rfl
def t_sRowsThatFit_8 : X := (.blk 0 (.loop [6, 7] [0, 1] t_sRowsThatFit_7))
theorem u_sRowsThatFit_8 (P : Program) (k : KT) (e : Env) (w : World) : vcK P t_sRowsThatFit_8 k e w = vcK P (.blk 0 (.loop [6, 7] [0, 1] t_sRowsThatFit_7)) k e w := rfl
def t_sRowsThatFit_9 : X := (.seq (.reg [4, 5] (.c (.q 37 [] (.mv (.t 6))) (.c (.q 4 [] (.mv (.t 37))) (.c (.q 5 [] (.mv (.c (.bool true)))) .nil)))) .ret)
theorem u_sRowsThatFit_9 (P : Program) (k : KT) (e : Env) (w : World) : vcK P t_sRowsThatFit_9 k e w = vcK P (.seq (.reg [4, 5] (.c (.q 37 [] (.mv (.t 6))) (.c (.q 4 [] (.mv (.t 37))) (.c (.q 5 [] (.mv (.c (.bool true)))) .nil)))) .ret) k e w := rfl
def t_sRowsThatFit_10 : X := (.seq (.seq (.reg [0, 1, 6, 7] (.c (.q 7 [] (.mv (.c (.int .i64 0)))) .nil)) t_sRowsThatFit_8) t_sRowsThatFit_9)
theorem u_sRowsThatFit_10 (P : Program) (k : KT) (e : Env) (w : World) : vcK P t_sRowsThatFit_10 k e w = vcK P (.seq (.seq (.reg [0, 1, 6, 7] (.c (.q 7 [] (.mv (.c (.int .i64 0)))) .nil)) t_sRowsThatFit_8) t_sRowsThatFit_9) k e w := rfl
def t_sRowsThatFit_11 : X := (.seq (.reg [0, 1, 6] (.c (.q 6 [] (.mv (.c (.slice none 0 0)))) .nil)) t_sRowsThatFit_10)
theorem u_sRowsThatFit_11 (P : Program) (k : KT) (e : Env) (w : World) : vcK P t_sRowsThatFit_11 k e w = vcK P (.seq (.reg [0, 1, 6] (.c (.q 6 [] (.mv (.c (.slice none 0 0)))) .nil)) t_sRowsThatFit_10) k e w := rfl
def t_sRowsThatFit_12 : X := (.seq (.seq (.reg [0, 1, 17] (.c (.q 10 [] (.mv (.t 0))) (.c (.e (some 11) [] (.call false 86 [(.t 10)])) (.c (.q 12 [] (.not (.t 11))) (.c (.q 13 [] (.mv (.t 12))) (.c (.q 14 [(13, false)] (.mv (.t 1))) (.c (.e (some 15) [(13, false)] (.call false 87 [(.t 14), (.c (.int .i64 3)), (.c (.int .i64 6))])) (.c (.q 16 [(13, false)] (.not (.t 15))) (.c (.q 17 [] (.pick (.t 13) (.c (.bool true)) (.t 16))) .nil))))))))) t_sRowsThatFit_1) t_sRowsThatFit_11)
theorem u_sRowsThatFit_12 (P : Program) (k : KT) (e : Env) (w : World) : vcK P t_sRowsThatFit_12 k e w = vcK P (.seq (.seq (.reg [0, 1, 17] (.c (.q 10 [] (.mv (.t 0))) (.c (.e (some 11) [] (.call false 86 [(.t 10)])) (.c (.q 12 [] (.not (.t 11))) (.c (.q 13 [] (.mv (.t 12))) (.c (.q 14 [(13, false)] (.mv (.t 1))) (.c (.e (some 15) [(13, false)] (.call false 87 [(.t 14), (.c (.int .i64 3)), (.c (.int .i64 6))])) (.c (.q 16 [(13, false)] (.not (.t 15))) (.c (.q 17 [] (.pick (.t 13) (.c (.bool true)) (.t 16))) .nil))))))))) t_sRowsThatFit_1) t_sRowsThatFit_11) k e w := rfl
def x_sRowsThatFit : X := (.seq (.reg [0, 1] (.c (.q 4 [] (.mv (.c (.slice none 0 0)))) (.c (.q 5 [] (.mv (.c (.bool false)))) .nil))) t_sRowsThatFit_12)
theorem u_sRowsThatFit (P : Program) (k : KT) (e : Env) (w : World) : vcK P x_sRowsThatFit k e w = vcK P (.seq (.reg [0, 1] (.c (.q 4 [] (.mv (.c (.slice none 0 0)))) (.c (.q 5 [] (.mv (.c (.bool false)))) .nil))) t_sRowsThatFit_12) k e w := rfl
def r_sRowsThatFit : List XO := [(.mv (.t 4)), (.mv (.t 5))]
theorem c_sRowsThatFit : convF Try.prog [95, 96, 97, 107, 117, 118, 128, 129, 134, 144, 145, 153, 156, 174, 175, 182] Try.f15 [([0, 1], []), ([0, 1, 17], []), ([4, 5], []), ([0, 1, 6], []), ([0, 1, 6, 7], []), ([6, 7], [0, 1]), ([0, 1, 6, 7, 21], []), ([0, 1, 6, 7, 8], []), ([0, 1, 6, 7, 8, 32], []), ([0, 1, 6, 7], []), ([0, 1, 6, 7], []), ([4, 5], [])] = some (x_sRowsThatFit, r_sRowsThatFit) := by kernel_rfl
def us_sRowsThatFit := And.intro @u_sRowsThatFit (And.intro @u_sRowsThatFit_1 (And.intro @u_sRowsThatFit_2 (And.intro @u_sRowsThatFit_3 (And.intro @u_sRowsThatFit_4 (And.intro @u_sRowsThatFit_5 (And.intro @u_sRowsThatFit_6 (And.intro @u_sRowsThatFit_7 (And.intro @u_sRowsThatFit_8 (And.intro @u_sRowsThatFit_9 (And.intro @u_sRowsThatFit_10 (And.intro @u_sRowsThatFit_11 @u_sRowsThatFit_12)))))))))))
def t_lFnExactRowsThatFit_1 : X := (.cond (.t 15) (.seq (.reg [4] (.c (.q 4 [] (.mv (.c (.bool true)))) .nil)) .ret) .skip)
theorem u_lFnExactRowsThatFit_1 (P : Program) (k : KT) (e : Env) (w : World) : vcK P t_lFnExactRowsThatFit_1 k e w = vcK P (.cond (.t 15) (.seq (.reg [4] (.c (.q 4 [] (.mv (.c (.bool true)))) .nil)) .ret) .skip) k e w := rfl
def t_lFnExactRowsThatFit_2 : X := (.cond (.t 36) (.seq (.reg [4] (.c (.q 4 [] (.mv (.c (.bool false)))) .nil)) .ret) .skip)
theorem u_lFnExactRowsThatFit_2 (P : Program) (k : KT) (e : Env) (w : World) : vcK P t_lFnExactRowsThatFit_2 k e w = vcK P (.cond (.t 36) (.seq (.reg [4] (.c (.q 4 [] (.mv (.c (.bool false)))) .nil)) .ret) .skip) k e w := rfl
def t_lFnExactRowsThatFit_3 : X := (.cond (.t 44) (.seq (.reg [4] (.c (.q 4 [] (.mv (.c (.bool false)))) .nil)) .ret) .skip)
theorem u_lFnExactRowsThatFit_3 (P : Program) (k : KT) (e : Env) (w : World) : vcK P t_lFnExactRowsThatFit_3 k e w = vcK P (.cond (.t 44) (.seq (.reg [4] (.c (.q 4 [] (.mv (.c (.bool false)))) .nil)) .ret) .skip) k e w := rfl
def t_lFnExactRowsThatFit_4 : X := (.cond (.t 47) (.seq (.reg [4] (.c (.q 4 [] (.mv (.c (.bool false)))) .nil)) .ret) .skip)
theorem u_lFnExactRowsThatFit_4 (P : Program) (k : KT) (e : Env) (w : World) : vcK P t_lFnExactRowsThatFit_4 k e w = vcK P (.cond (.t 47) (.seq (.reg [4] (.c (.q 4 [] (.mv (.c (.bool false)))) .nil)) .ret) .skip) k e w := rfl
def t_lFnExactRowsThatFit_5 : X := (.cond (.t 62) (.seq (.reg [4] (.c (.q 4 [] (.mv (.c (.bool false)))) .nil)) .ret) .skip)
theorem u_lFnExactRowsThatFit_5 (P : Program) (k : KT) (e : Env) (w : World) : vcK P t_lFnExactRowsThatFit_5 k e w = vcK P (.cond (.t 62) (.seq (.reg [4] (.c (.q 4 [] (.mv (.c (.bool false)))) .nil)) .ret) .skip) k e w := rfl
def t_lFnExactRowsThatFit_6 : X := (.cond (.t 67) (.seq (.reg [4] (.c (.q 4 [] (.mv (.c (.bool false)))) .nil)) .ret) .skip)
theorem u_lFnExactRowsThatFit_6 (P : Program) (k : KT) (e : Env) (w : World) : vcK P t_lFnExactRowsThatFit_6 k e w = vcK P (.cond (.t 67) (.seq (.reg [4] (.c (.q 4 [] (.mv (.c (.bool false)))) .nil)) .ret) .skip) k e w := rfl
def t_lFnExactRowsThatFit_7 : X := (.cond (.t 70) (.seq (.reg [4] (.c (.q 4 [] (.mv (.c (.bool false)))) .nil)) .ret) .skip)
theorem u_lFnExactRowsThatFit_7 (P : Program) (k : KT) (e : Env) (w : World) : vcK P t_lFnExactRowsThatFit_7 k e w = vcK P (.cond (.t 70) (.seq (.reg [4] (.c (.q 4 [] (.mv (.c (.bool false)))) .nil)) .ret) .skip) k e w := rfl
def t_lFnExactRowsThatFit_8 : X := (.seq (.reg [4] (.c (.q 4 [] (.mv (.c (.bool true)))) .nil)) .ret)
theorem u_lFnExactRowsThatFit_8 (P : Program) (k : KT) (e : Env) (w : World) : vcK P t_lFnExactRowsThatFit_8 k e w = vcK P (.seq (.reg [4] (.c (.q 4 [] (.mv (.c (.bool true)))) .nil)) .ret) k e w := rfl
def t_lFnExactRowsThatFit_9 : X := (.seq (.seq (.reg [70] (.c (.q 68 [] (.mv (.t 10))) (.c (.q 69 [] (.mv (.t 9))) (.c (.q 70 [] (.bin .neq (.t 68) (.t 69))) .nil)))) t_lFnExactRowsThatFit_7) t_lFnExactRowsThatFit_8)
theorem u_lFnExactRowsThatFit_9 (P : Program) (k : KT) (e : Env) (w : World) : vcK P t_lFnExactRowsThatFit_9 k e w = vcK P (.seq (.seq (.reg [70] (.c (.q 68 [] (.mv (.t 10))) (.c (.q 69 [] (.mv (.t 9))) (.c (.q 70 [] (.bin .neq (.t 68) (.t 69))) .nil)))) t_lFnExactRowsThatFit_7) t_lFnExactRowsThatFit_8) k e w := rfl
def t_lFnExactRowsThatFit_10 : X := (.seq (.seq (.reg [9, 10, 67] (.c (.q 66 [] (.mv (.t 10))) (.c (.q 67 [] (.bin .lss (.t 66) (.c (.int .i64 0)))) .nil))) t_lFnExactRowsThatFit_6) t_lFnExactRowsThatFit_9)
theorem u_lFnExactRowsThatFit_10 (P : Program) (k : KT) (e : Env) (w : World) : vcK P t_lFnExactRowsThatFit_10 k e w = vcK P (.seq (.seq (.reg [9, 10, 67] (.c (.q 66 [] (.mv (.t 10))) (.c (.q 67 [] (.bin .lss (.t 66) (.c (.int .i64 0)))) .nil))) t_lFnExactRowsThatFit_6) t_lFnExactRowsThatFit_9) k e w := rfl
def t_lFnExactRowsThatFit_11 : X := (.seq (.reg [9, 10] (.c (.q 63 [] (.mv (.t 7))) (.c (.q 64 [] (.mv (.t 10))) (.c (.e (some 65) [] (.call false 19 [(.t 63), (.t 64)])) (.c (.q 10 [] (.mv (.t 65))) .nil))))) t_lFnExactRowsThatFit_10)
theorem u_lFnExactRowsThatFit_11 (P : Program) (k : KT) (e : Env) (w : World) : vcK P t_lFnExactRowsThatFit_11 k e w = vcK P (.seq (.reg [9, 10] (.c (.q 63 [] (.mv (.t 7))) (.c (.q 64 [] (.mv (.t 10))) (.c (.e (some 65) [] (.call false 19 [(.t 63), (.t 64)])) (.c (.q 10 [] (.mv (.t 65))) .nil))))) t_lFnExactRowsThatFit_10) k e w := rfl
def t_lFnExactRowsThatFit_12 : X := (.seq (.reg [7, 9, 10] (.c (.q 10 [] (.mv (.c (.int .i64 1)))) .nil)) t_lFnExactRowsThatFit_11)
theorem u_lFnExactRowsThatFit_12 (P : Program) (k : KT) (e : Env) (w : World) : vcK P t_lFnExactRowsThatFit_12 k e w = vcK P (.seq (.reg [7, 9, 10] (.c (.q 10 [] (.mv (.c (.int .i64 1)))) .nil)) t_lFnExactRowsThatFit_11) k e w := rfl
def t_lFnExactRowsThatFit_13 : X := (.seq (.seq (.reg [7, 9, 62] (.c (.q 54 [] (.mv (.t 11))) (.c (.q 55 [] (.mv (.t 5))) (.c (.e (some 56) [] (.call false 17 [(.t 54), (.t 55)])) (.c (.q 57 [] (.not (.t 56))) (.c (.q 58 [] (.mv (.t 57))) (.c (.q 59 [(58, false)] (.mv (.t 12))) (.c (.q 60 [(58, false)] (.mv (.t 6))) (.c (.q 61 [(58, false)] (.beq true (.t 59) (.t 60))) (.c (.q 62 [] (.pick (.t 58) (.c (.bool true)) (.t 61))) .nil)))))))))) t_lFnExactRowsThatFit_5) t_lFnExactRowsThatFit_12)
theorem u_lFnExactRowsThatFit_13 (P : Program) (k : KT) (e : Env) (w : World) : vcK P t_lFnExactRowsThatFit_13 k e w = vcK P (.seq (.seq (.reg [7, 9, 62] (.c (.q 54 [] (.mv (.t 11))) (.c (.q 55 [] (.mv (.t 5))) (.c (.e (some 56) [] (.call false 17 [(.t 54), (.t 55)])) (.c (.q 57 [] (.not (.t 56))) (.c (.q 58 [] (.mv (.t 57))) (.c (.q 59 [(58, false)] (.mv (.t 12))) (.c (.q 60 [(58, false)] (.mv (.t 6))) (.c (.q 61 [(58, false)] (.beq true (.t 59) (.t 60))) (.c (.q 62 [] (.pick (.t 58) (.c (.bool true)) (.t 61))) .nil)))))))))) t_lFnExactRowsThatFit_5) t_lFnExactRowsThatFit_12) k e w := rfl
def t_lFnExactRowsThatFit_14 : X := (.seq (.reg [5, 6, 7, 9, 11, 12] (.c (.q 49 [] (.mv (.t 0))) (.c (.q 50 [] (.mv (.t 1))) (.c (.e (some 51) [] (.call false 16 [(.t 49), (.t 50)])) (.c (.q 48 [] (.mv (.t 51))) (.c (.q 52 [] (.ext 0 (.t 48))) (.c (.q 53 [] (.ext 1 (.t 48))) (.c (.q 11 [] (.mv (.t 52))) (.c (.q 12 [] (.mv (.t 53))) .nil))))))))) t_lFnExactRowsThatFit_13)
theorem u_lFnExactRowsThatFit_14 (P : Program) (k : KT) (e : Env) (w : World) : vcK P t_lFnExactRowsThatFit_14 k e w = vcK P (.seq (.reg [5, 6, 7, 9, 11, 12] (.c (.q 49 [] (.mv (.t 0))) (.c (.q 50 [] (.mv (.t 1))) (.c (.e (some 51) [] (.call false 16 [(.t 49), (.t 50)])) (.c (.q 48 [] (.mv (.t 51))) (.c (.q 52 [] (.ext 0 (.t 48))) (.c (.q 53 [] (.ext 1 (.t 48))) (.c (.q 11 [] (.mv (.t 52))) (.c (.q 12 [] (.mv (.t 53))) .nil))))))))) t_lFnExactRowsThatFit_13) k e w := rfl
def t_lFnExactRowsThatFit_15 : X := (.seq (.seq (.reg [0, 1, 5, 6, 7, 9, 47] (.c (.q 45 [] (.mv (.t 10))) (.c (.q 46 [] (.mv (.t 9))) (.c (.q 47 [] (.bin .neq (.t 45) (.t 46))) .nil)))) t_lFnExactRowsThatFit_4) t_lFnExactRowsThatFit_14)
theorem u_lFnExactRowsThatFit_15 (P : Program) (k : KT) (e : Env) (w : World) : vcK P t_lFnExactRowsThatFit_15 k e w = vcK P (.seq (.seq (.reg [0, 1, 5, 6, 7, 9, 47] (.c (.q 45 [] (.mv (.t 10))) (.c (.q 46 [] (.mv (.t 9))) (.c (.q 47 [] (.bin .neq (.t 45) (.t 46))) .nil)))) t_lFnExactRowsThatFit_4) t_lFnExactRowsThatFit_14) k e w := rfl
def t_lFnExactRowsThatFit_16 : X := (.seq (.seq (.reg [0, 1, 5, 6, 7, 9, 10, 44] (.c (.q 43 [] (.mv (.t 10))) (.c (.q 44 [] (.bin .lss (.t 43) (.c (.int .i64 0)))) .nil))) t_lFnExactRowsThatFit_3) t_lFnExactRowsThatFit_15)
theorem u_lFnExactRowsThatFit_16 (P : Program) (k : KT) (e : Env) (w : World) : vcK P t_lFnExactRowsThatFit_16 k e w = vcK P (.seq (.seq (.reg [0, 1, 5, 6, 7, 9, 10, 44] (.c (.q 43 [] (.mv (.t 10))) (.c (.q 44 [] (.bin .lss (.t 43) (.c (.int .i64 0)))) .nil))) t_lFnExactRowsThatFit_3) t_lFnExactRowsThatFit_15) k e w := rfl
def t_lFnExactRowsThatFit_17 : X := (.seq (.reg [0, 1, 5, 6, 7, 9, 10] (.c (.q 40 [] (.mv (.t 7))) (.c (.q 41 [] (.mv (.t 10))) (.c (.e (some 42) [] (.call false 19 [(.t 40), (.t 41)])) (.c (.q 10 [] (.mv (.t 42))) .nil))))) t_lFnExactRowsThatFit_16)
theorem u_lFnExactRowsThatFit_17 (P : Program) (k : KT) (e : Env) (w : World) : vcK P t_lFnExactRowsThatFit_17 k e w = vcK P (.seq (.reg [0, 1, 5, 6, 7, 9, 10] (.c (.q 40 [] (.mv (.t 7))) (.c (.q 41 [] (.mv (.t 10))) (.c (.e (some 42) [] (.call false 19 [(.t 40), (.t 41)])) (.c (.q 10 [] (.mv (.t 42))) .nil))))) t_lFnExactRowsThatFit_16) k e w := rfl
def t_lFnExactRowsThatFit_18 : X := (.seq (.reg [0, 1, 5, 6, 7, 9, 10] (.c (.q 10 [] (.mv (.c (.int .i64 1)))) .nil)) t_lFnExactRowsThatFit_17)
theorem u_lFnExactRowsThatFit_18 (P : Program) (k : KT) (e : Env) (w : World) : vcK P t_lFnExactRowsThatFit_18 k e w = vcK P (.seq (.reg [0, 1, 5, 6, 7, 9, 10] (.c (.q 10 [] (.mv (.c (.int .i64 1)))) .nil)) t_lFnExactRowsThatFit_17) k e w := rfl
def t_lFnExactRowsThatFit_19 : X := (.seq (.reg [0, 1, 5, 6, 7, 9] (.c (.q 37 [] (.mv (.t 7))) (.c (.q 38 [] (.mv (.t 9))) (.c (.e (some 39) [] (.call false 18 [(.t 37), (.t 38)])) (.c (.q 9 [] (.mv (.t 39))) .nil))))) t_lFnExactRowsThatFit_18)
theorem u_lFnExactRowsThatFit_19 (P : Program) (k : KT) (e : Env) (w : World) : vcK P t_lFnExactRowsThatFit_19 k e w = vcK P (.seq (.reg [0, 1, 5, 6, 7, 9] (.c (.q 37 [] (.mv (.t 7))) (.c (.q 38 [] (.mv (.t 9))) (.c (.e (some 39) [] (.call false 18 [(.t 37), (.t 38)])) (.c (.q 9 [] (.mv (.t 39))) .nil))))) t_lFnExactRowsThatFit_18) k e w := rfl
def t_lFnExactRowsThatFit_20 : X := (.seq (.reg [0, 1, 5, 6, 7, 9] (.c (.q 9 [] (.mv (.c (.int .i64 1)))) .nil)) t_lFnExactRowsThatFit_19)
theorem u_lFnExactRowsThatFit_20 (P : Program) (k : KT) (e : Env) (w : World) : vcK P t_lFnExactRowsThatFit_20 k e w = vcK P (.seq (.reg [0, 1, 5, 6, 7, 9] (.c (.q 9 [] (.mv (.c (.int .i64 1)))) .nil)) t_lFnExactRowsThatFit_19) k e w := rfl
def t_lFnExactRowsThatFit_21 : X := (.seq (.seq (.reg [0, 1, 5, 6, 7, 36] (.c (.q 28 [] (.mv (.t 7))) (.c (.q 29 [] (.mv (.t 5))) (.c (.e (some 30) [] (.call false 17 [(.t 28), (.t 29)])) (.c (.q 31 [] (.not (.t 30))) (.c (.q 32 [] (.mv (.t 31))) (.c (.q 33 [(32, false)] (.mv (.t 8))) (.c (.q 34 [(32, false)] (.mv (.t 6))) (.c (.q 35 [(32, false)] (.beq true (.t 33) (.t 34))) (.c (.q 36 [] (.pick (.t 32) (.c (.bool true)) (.t 35))) .nil)))))))))) t_lFnExactRowsThatFit_2) t_lFnExactRowsThatFit_20)
theorem u_lFnExactRowsThatFit_21 (P : Program) (k : KT) (e : Env) (w : World) : vcK P t_lFnExactRowsThatFit_21 k e w = vcK P (.seq (.seq (.reg [0, 1, 5, 6, 7, 36] (.c (.q 28 [] (.mv (.t 7))) (.c (.q 29 [] (.mv (.t 5))) (.c (.e (some 30) [] (.call false 17 [(.t 28), (.t 29)])) (.c (.q 31 [] (.not (.t 30))) (.c (.q 32 [] (.mv (.t 31))) (.c (.q 33 [(32, false)] (.mv (.t 8))) (.c (.q 34 [(32, false)] (.mv (.t 6))) (.c (.q 35 [(32, false)] (.beq true (.t 33) (.t 34))) (.c (.q 36 [] (.pick (.t 32) (.c (.bool true)) (.t 35))) .nil)))))))))) t_lFnExactRowsThatFit_2) t_lFnExactRowsThatFit_20) k e w := rfl
def t_lFnExactRowsThatFit_22 : X := (.seq (.reg [0, 1, 5, 6, 7, 8] (.c (.q 23 [] (.mv (.t 0))) (.c (.q 24 [] (.mv (.t 1))) (.c (.e (some 25) [] (.call false 16 [(.t 23), (.t 24)])) (.c (.q 22 [] (.mv (.t 25))) (.c (.q 26 [] (.ext 0 (.t 22))) (.c (.q 27 [] (.ext 1 (.t 22))) (.c (.q 7 [] (.mv (.t 26))) (.c (.q 8 [] (.mv (.t 27))) .nil))))))))) t_lFnExactRowsThatFit_21)
theorem u_lFnExactRowsThatFit_22 (P : Program) (k : KT) (e : Env) (w : World) : vcK P t_lFnExactRowsThatFit_22 k e w = vcK P (.seq (.reg [0, 1, 5, 6, 7, 8] (.c (.q 23 [] (.mv (.t 0))) (.c (.q 24 [] (.mv (.t 1))) (.c (.e (some 25) [] (.call false 16 [(.t 23), (.t 24)])) (.c (.q 22 [] (.mv (.t 25))) (.c (.q 26 [] (.ext 0 (.t 22))) (.c (.q 27 [] (.ext 1 (.t 22))) (.c (.q 7 [] (.mv (.t 26))) (.c (.q 8 [] (.mv (.t 27))) .nil))))))))) t_lFnExactRowsThatFit_21) k e w := rfl
def t_lFnExactRowsThatFit_23 : X := (.seq (.reg [0, 1, 5, 6] (.c (.q 17 [] (.mv (.t 0))) (.c (.q 18 [] (.mv (.t 1))) (.c (.e (some 19) [] (.call false 15 [(.t 17), (.t 18)])) (.c (.q 16 [] (.mv (.t 19))) (.c (.q 20 [] (.ext 0 (.t 16))) (.c (.q 21 [] (.ext 1 (.t 16))) (.c (.q 5 [] (.mv (.t 20))) (.c (.q 6 [] (.mv (.t 21))) .nil))))))))) t_lFnExactRowsThatFit_22)
theorem u_lFnExactRowsThatFit_23 (P : Program) (k : KT) (e : Env) (w : World) : vcK P t_lFnExactRowsThatFit_23 k e w = vcK P (.seq (.reg [0, 1, 5, 6] (.c (.q 17 [] (.mv (.t 0))) (.c (.q 18 [] (.mv (.t 1))) (.c (.e (some 19) [] (.call false 15 [(.t 17), (.t 18)])) (.c (.q 16 [] (.mv (.t 19))) (.c (.q 20 [] (.ext 0 (.t 16))) (.c (.q 21 [] (.ext 1 (.t 16))) (.c (.q 5 [] (.mv (.t 20))) (.c (.q 6 [] (.mv (.t 21))) .nil))))))))) t_lFnExactRowsThatFit_22) k e w := rfl
def t_lFnExactRowsThatFit_24 : X := (.seq (.seq (.reg [0, 1, 15] (.c (.q 13 [] (.mv (.t 0))) (.c (.q 14 [] (.len (.t 13))) (.c (.q 15 [] (.bin .gtr (.t 14) (.c (.int .i64 1048576)))) .nil)))) t_lFnExactRowsThatFit_1) t_lFnExactRowsThatFit_23)
theorem u_lFnExactRowsThatFit_24 (P : Program) (k : KT) (e : Env) (w : World) : vcK P t_lFnExactRowsThatFit_24 k e w = vcK P (.seq (.seq (.reg [0, 1, 15] (.c (.q 13 [] (.mv (.t 0))) (.c (.q 14 [] (.len (.t 13))) (.c (.q 15 [] (.bin .gtr (.t 14) (.c (.int .i64 1048576)))) .nil)))) t_lFnExactRowsThatFit_1) t_lFnExactRowsThatFit_23) k e w := rfl
def x_lFnExactRowsThatFit : X := (.seq (.reg [0, 1] (.c (.q 4 [] (.mv (.c (.bool false)))) .nil)) t_lFnExactRowsThatFit_24)
theorem u_lFnExactRowsThatFit (P : Program) (k : KT) (e : Env) (w : World) : vcK P x_lFnExactRowsThatFit k e w = vcK P (.seq (.reg [0, 1] (.c (.q 4 [] (.mv (.c (.bool false)))) .nil)) t_lFnExactRowsThatFit_24) k e w := rfl
def r_lFnExactRowsThatFit : List XO := [(.mv (.t 4))]
theorem c_lFnExactRowsThatFit : convF Try.prog [95, 96, 97, 107, 117, 118, 128, 129, 134, 144, 145, 153, 156, 174, 175, 182] Try.f3 [([0, 1], []), ([0, 1, 15], []), ([4], []), ([0, 1, 5, 6], []), ([0, 1, 5, 6, 7, 8], []), ([0, 1, 5, 6, 7, 36], []), ([4], []), ([0, 1, 5, 6, 7, 9], []), ([0, 1, 5, 6, 7, 9], []), ([0, 1, 5, 6, 7, 9, 10], []), ([0, 1, 5, 6, 7, 9, 10], []), ([0, 1, 5, 6, 7, 9, 10, 44], []), ([4], []), ([0, 1, 5, 6, 7, 9, 47], []), ([4], []), ([5, 6, 7, 9, 11, 12], []), ([7, 9, 62], []), ([4], []), ([7, 9, 10], []), ([9, 10], []), ([9, 10, 67], []), ([4], []), ([70], []), ([4], []), ([4], [])] = some (x_lFnExactRowsThatFit, r_lFnExactRowsThatFit) := by kernel_rfl
def us_lFnExactRowsThatFit := And.intro @u_lFnExactRowsThatFit (And.intro @u_lFnExactRowsThatFit_1 (And.intro @u_lFnExactRowsThatFit_2 (And.intro @u_lFnExactRowsThatFit_3 (And.intro @u_lFnExactRowsThatFit_4 (And.intro @u_lFnExactRowsThatFit_5 (And.intro @u_lFnExactRowsThatFit_6 (And.intro @u_lFnExactRowsThatFit_7 (And.intro @u_lFnExactRowsThatFit_8 (And.intro @u_lFnExactRowsThatFit_9 (And.intro @u_lFnExactRowsThatFit_10 (And.intro @u_lFnExactRowsThatFit_11 (And.intro @u_lFnExactRowsThatFit_12 (And.intro @u_lFnExactRowsThatFit_13 (And.intro @u_lFnExactRowsThatFit_14 (And.intro @u_lFnExactRowsThatFit_15 (And.intro @u_lFnExactRowsThatFit_16 (And.intro @u_lFnExactRowsThatFit_17 (And.intro @u_lFnExactRowsThatFit_18 (And.intro @u_lFnExactRowsThatFit_19 (And.intro @u_lFnExactRowsThatFit_20 (And.intro @u_lFnExactRowsThatFit_21 (And.intro @u_lFnExactRowsThatFit_22 (And.intro @u_lFnExactRowsThatFit_23 @u_lFnExactRowsThatFit_24)))))))))))))))))))))))

theorem roundsS : ∀ n < 9, ([49, 50, 51, 52, 53, 54, 55, 56] : List UInt8).take n = roundsL n := by decide
theorem irounds_ok (n : Nat) (hn : n < 9) (w : World) : Fn 104 [.int .i64 n] w (fun v _ => v = S (roundsL n)) := by
  (refine callsV_of mix Try.func104 c_irounds ?_; simp only [↓vsd, vsn, gW, qd, qv, ev, pick, argE, List.map_cons, List.map_nil, Option.map_some, Option.map_none, zipE, List.cons_append, List.nil_append, ne_eq, eq_self, forall_const, implies_true, if_true, if_false, reduceIte, List.cons.injEq, reduceCtorEq, Nat.reduceEqDiff, List.length_nil, List.length_cons, Nat.reduceAdd, Nat.reduceLT, List.set_cons_zero, List.set_cons_succ, ↓us_irounds, r_irounds])
  exact ⟨by omega, Ext.refl _, by rw [roundsS n hn]⟩
theorem sl1Rounds_ok (n : Nat) (hn : n < 9) (w : World) : Fn 108 [.int .i64 n] w (fun v _ => v = S (roundsL n)) := by
  (refine callsV_of mix Try.func108 c_sl1Rounds ?_; simp only [↓vsd, vsn, gW, qd, qv, ev, pick, argE, List.map_cons, List.map_nil, Option.map_some, Option.map_none, zipE, List.cons_append, List.nil_append, ne_eq, eq_self, forall_const, implies_true, if_true, if_false, reduceIte, List.cons.injEq, reduceCtorEq, Nat.reduceEqDiff, List.length_nil, List.length_cons, Nat.reduceAdd, Nat.reduceLT, List.set_cons_zero, List.set_cons_succ, ↓us_sl1Rounds, r_sl1Rounds])
  exact ⟨by omega, Ext.refl _, by rw [roundsS n hn]⟩
theorem factL_mul (k : Nat) : ((factL (k + 1) : Nat) : Int) * ((k + 2 : Nat) : Int) = (factL (k + 1 + 1) : Nat) := by
  rw [← Int.natCast_mul, Nat.mul_comm]; rfl
theorem ifactorial_ok (n : Nat) (hn : n < 9) (w : World) : Fn 91 [.int .i64 n] w (fun v _ => v = .int .i64 (factL n : Nat)) := by
  (refine callsV_of mix Try.func91 c_ifactorial ?_; simp only [↓vsd, vsn, gW, qd, qv, ev, pick, argE, List.map_cons, List.map_nil, Option.map_some, Option.map_none, zipE, List.cons_append, List.nil_append, ne_eq, eq_self, forall_const, implies_true, if_true, if_false, reduceIte, List.cons.injEq, reduceCtorEq, Nat.reduceEqDiff, List.length_nil, List.length_cons, Nat.reduceAdd, Nat.reduceLT, List.set_cons_zero, List.set_cons_succ, ↓us_ifactorial, r_ifactorial])
  refine m_upto (n - 1) (fun k vs w' => vs = [.int .i64 (factL (k + 1) : Nat), .int .i64 (k + 2 : Nat)] ∧ Ext w w') ⟨rfl, Ext.refl _⟩ ?_
  rintro k vs w1 hk ⟨rfl, hx⟩
  simp only [↓vsd, vsn, gW, qd, qv, ev, pick, argE, List.map_cons, List.map_nil, Option.map_some, Option.map_none, zipE, List.cons_append, List.nil_append, ne_eq, eq_self, forall_const, implies_true, if_true, if_false, reduceIte, List.cons.injEq, reduceCtorEq, Nat.reduceEqDiff, List.length_nil, List.length_cons, Nat.reduceAdd, Nat.reduceLT, List.set_cons_zero, List.set_cons_succ, ↓us_ifactorial, r_ifactorial]
  rw [factL_mul]
  refine ⟨fun hle => ?_, fun hgt => ⟨hx, ?_⟩⟩
  · have := (factL_le (k + 1 + 1) (by omega)).2
    exact ⟨inR_i64 (by omega), inR_i64 (by omega), UpTo.next (by omega) ⟨rfl, hx⟩⟩
  · rcases Nat.lt_or_ge n 1 with h | h
    · obtain rfl : n = 0 := by omega
      obtain rfl : k = 0 := by omega
      rfl
    · obtain rfl : n = k + 1 := by omega
      rfl
theorem sl1Fact_ok (n : Nat) (hn : n < 9) (w : World) : Fn 88 [.int .i64 n] w (fun v _ => v = .int .i64 (factL n : Nat)) := by
  (refine callsV_of mix Try.func88 c_sl1Fact ?_; simp only [↓vsd, vsn, gW, qd, qv, ev, pick, argE, List.map_cons, List.map_nil, Option.map_some, Option.map_none, zipE, List.cons_append, List.nil_append, ne_eq, eq_self, forall_const, implies_true, if_true, if_false, reduceIte, List.cons.injEq, reduceCtorEq, Nat.reduceEqDiff, List.length_nil, List.length_cons, Nat.reduceAdd, Nat.reduceLT, List.set_cons_zero, List.set_cons_succ, ↓us_sl1Fact, r_sl1Fact])
  refine m_upto (n - 1) (fun k vs w' => ∃ m j : Nat, m + k = n ∧ j * factL m = factL n ∧ vs = [.int .i64 m, .int .i64 j] ∧ Ext w w') ⟨n, 1, rfl, Nat.one_mul _, rfl, Ext.refl _⟩ ?_
  rintro k vs w1 hk ⟨m, j, hm, hj, rfl, hx⟩
  simp only [↓vsd, vsn, gW, qd, qv, ev, pick, argE, List.map_cons, List.map_nil, Option.map_some, Option.map_none, zipE, List.cons_append, List.nil_append, ne_eq, eq_self, forall_const, implies_true, if_true, if_false, reduceIte, List.cons.injEq, reduceCtorEq, Nat.reduceEqDiff, List.length_nil, List.length_cons, Nat.reduceAdd, Nat.reduceLT, List.set_cons_zero, List.set_cons_succ, ↓us_sl1Fact, r_sl1Fact]
  have hf := (factL_le n hn).2
  refine ⟨fun hle => ?_, fun hgt => ⟨hx, ?_⟩⟩
  · obtain ⟨i, rfl⟩ : ∃ i, m = i + 1 := ⟨m - 1, by omega⟩
    have h2 : j * (i + 1) * factL i = factL n := by rw [Nat.mul_assoc]; exact hj
    have h3 : j * (i + 1) ≤ factL n := by rw [← h2]; exact Nat.le_mul_of_pos_right _ (factL_pos i)
    rw [show (j : Int) * ((i + 1 : Nat) : Int) = (j * (i + 1) : Nat) by rw [Int.natCast_mul]]
    exact ⟨inR_i64 (by omega), inR_i64 (by omega), UpTo.next (by omega) ⟨i, j * (i + 1), by omega, h2, by rw [Int.natCast_add, Int.natCast_one, Int.add_sub_cancel], hx⟩⟩
  · have : factL m = 1 := by
      rcases Nat.lt_or_ge m 1 with h | h
      · obtain rfl : m = 0 := by omega
        rfl
      · obtain rfl : m = 1 := by omega
        rfl
    rw [this, Nat.mul_one] at hj
    rw [hj]
theorem Own.mono {α : Type} {f : α → List Value} {z E B B' : Nat} {w : World} {v : Value} {l : List α} (h : Own f z E B w v l) (hB : B' ≤ B) : Own f z E B' w v l :=
  ⟨h.1, h.2.imp id fun ⟨g, cap, cur, e, hg, hr⟩ => ⟨g, cap, cur, e, Nat.le_trans hB hg, hr⟩⟩
theorem irowOf_ok (n k : Nat) (hn : n < 9) (hk : k < factL n) (w : World) : Fn 92 [.int .i64 n, .int .i64 k] w (fun v _ => v = S (rowGo n (roundsL n) k)) := by
  (refine callsV_of mix Try.func92 c_irowOf ?_; simp only [↓vsd, vsn, gW, qd, qv, ev, pick, argE, List.map_cons, List.map_nil, Option.map_some, Option.map_none, zipE, List.cons_append, List.nil_append, ne_eq, eq_self, forall_const, implies_true, if_true, if_false, reduceIte, List.cons.injEq, reduceCtorEq, Nat.reduceEqDiff, List.length_nil, List.length_cons, Nat.reduceAdd, Nat.reduceLT, List.set_cons_zero, List.set_cons_succ, ↓us_irowOf, r_irowOf])
  refine m_call (irounds_ok n hn _) ?_
  rintro _ w1 hx1 rfl
  simp only [↓vsd, vsn, gW, qd, qv, ev, pick, argE, List.map_cons, List.map_nil, Option.map_some, Option.map_none, zipE, List.cons_append, List.nil_append, ne_eq, eq_self, forall_const, implies_true, if_true, if_false, reduceIte, List.cons.injEq, reduceCtorEq, Nat.reduceEqDiff, List.length_nil, List.length_cons, Nat.reduceAdd, Nat.reduceLT, List.set_cons_zero, List.set_cons_succ, ↓us_irowOf, r_irowOf]
  refine m_s2bU w1.heap.size (by rw [roundsL_len]; omega) (Nat.le_refl _) ?_
  rintro v2 w2 ho2 hx2 _
  simp only [↓vsd, vsn, gW, qd, qv, ev, pick, argE, List.map_cons, List.map_nil, Option.map_some, Option.map_none, zipE, List.cons_append, List.nil_append, ne_eq, eq_self, forall_const, implies_true, if_true, if_false, reduceIte, List.cons.injEq, reduceCtorEq, Nat.reduceEqDiff, List.length_nil, List.length_cons, Nat.reduceAdd, Nat.reduceLT, List.set_cons_zero, List.set_cons_succ, ↓us_irowOf, r_irowOf]
  refine m_bsl (fun _ h => by cases h) ?_
  rintro b w3 hb hblk hx3 hs3
  simp only [↓vsd, vsn, gW, qd, qv, ev, pick, argE, List.map_cons, List.map_nil, Option.map_some, Option.map_none, zipE, List.cons_append, List.nil_append, ne_eq, eq_self, forall_const, implies_true, if_true, if_false, reduceIte, List.cons.injEq, reduceCtorEq, Nat.reduceEqDiff, List.length_nil, List.length_cons, Nat.reduceAdd, Nat.reduceLT, List.set_cons_zero, List.set_cons_succ, ↓us_irowOf, r_irowOf]
  have hx13 := (hx1.trans hx2).trans hx3
  refine m_upto n (fun r vs w' => ∃ (i kk : Nat) (v u : Value) (L O : List UInt8), i + r = n ∧ L.length = i ∧ O.length = r ∧ kk < factL i ∧ O ++ rowGo i L kk = rowGo n (roundsL n) k ∧ vs = [.int .i64 kk, v, u, .int .i64 i] ∧ 
    Own fU 1 5 w.heap.size w' v L ∧ Own fU 1 5 w.heap.size w' u O ∧ Apart v u ∧ Ext w w') ⟨n, k, v2, _, roundsL n, [], rfl, roundsL_len n, rfl, hk, rfl, rfl, ((ho2.ext hx3).to rfl).mono hx1.size, Own.empty fU_len hblk (by have := (hx1.trans hx2).size; omega), (Apart.symm (Apart.of_lt ho2 fun c hc => by simp only [Value.ownBlock, Option.some.injEq] at hc; omega)), hx13⟩ ?_
  rintro r vs w4 hr ⟨i, kk, v, u, L, O, hir, hL, hO, hkk, hgo, rfl, hov, hou, hap, hx4⟩
  simp only [↓vsd, vsn, gW, qd, qv, ev, pick, argE, List.map_cons, List.map_nil, Option.map_some, Option.map_none, zipE, List.cons_append, List.nil_append, ne_eq, eq_self, forall_const, implies_true, if_true, if_false, reduceIte, List.cons.injEq, reduceCtorEq, Nat.reduceEqDiff, List.length_nil, List.length_cons, Nat.reduceAdd, Nat.reduceLT, List.set_cons_zero, List.set_cons_succ, ↓us_irowOf, r_irowOf]
  cases i with
  | zero =>
    refine ⟨fun h => by omega, fun _ => m_b2s hou.sq ?_⟩
    simp only [↓vsd, vsn, gW, qd, qv, ev, pick, argE, List.map_cons, List.map_nil, Option.map_some, Option.map_none, zipE, List.cons_append, List.nil_append, ne_eq, eq_self, forall_const, implies_true, if_true, if_false, reduceIte, List.cons.injEq, reduceCtorEq, Nat.reduceEqDiff, List.length_nil, List.length_cons, Nat.reduceAdd, Nat.reduceLT, List.set_cons_zero, List.set_cons_succ, ↓us_irowOf, r_irowOf]
    exact ⟨hx4, by rw [← hgo]; simp [rowGo]⟩
  | succ i =>
    refine ⟨fun _ => ⟨inR_i64 (by omega), ?_⟩, fun h => by omega⟩
    rw [show ((i + 1 : Nat) : Int) - 1 = (i : Nat) by omega]
    refine m_call (ifactorial_ok i (by omega) _) ?_
    rintro _ w5 hx5 rfl
    have hf := factL_le i (by omega)
    obtain ⟨hat, hmod⟩ := rank_lt i kk hkk
    have hov5 := hov.ext hx5
    have hou5 := hou.ext hx5
    have hx45 := hx4.trans hx5
    have hne : ¬ ((factL i : Nat) : Int) = 0 := by omega
    have hatL : kk / factL i < L.length := by omega
    simp only [↓vsd, vsn, gW, qd, qv, ev, pick, argE, List.map_cons, List.map_nil, Option.map_some, Option.map_none, zipE, List.cons_append, List.nil_append, ne_eq, eq_self, forall_const, implies_true, if_true, if_false, reduceIte, List.cons.injEq, reduceCtorEq, Nat.reduceEqDiff, List.length_nil, List.length_cons, Nat.reduceAdd, Nat.reduceLT, List.set_cons_zero, List.set_cons_succ, ↓us_irowOf, r_irowOf, hov5.sq.facts, hov5.sq.at1 0 hatL, hne]
    generalize hq : kk / factL i = q at *
    generalize hqm : kk % factL i = qm at *
    refine ⟨inR_i64 (by omega), by omega, m_bsl (one_el rfl) ?_⟩
    rintro b6 w6 hb6 hblk6 hx6 hs6
    simp only [↓vsd, vsn, gW, qd, qv, ev, pick, argE, List.map_cons, List.map_nil, Option.map_some, Option.map_none, zipE, List.cons_append, List.nil_append, ne_eq, eq_self, forall_const, implies_true, if_true, if_false, reduceIte, List.cons.injEq, reduceCtorEq, Nat.reduceEqDiff, List.length_nil, List.length_cons, Nat.reduceAdd, Nat.reduceLT, List.set_cons_zero, List.set_cons_succ, ↓us_irowOf, r_irowOf]
    refine m_app2 (hou5.ext hx6) (Sq.one fU_len hblk6 rfl) fU_one (by decide) (by simp; omega) (by decide) (Nat.le_trans hx45.size hx6.size) ?_
    rintro u7 w7 ho7 hg7 hn7
    have hx7 := (hou5.ext hx6).grown (hx45.trans hx6) (Nat.le_refl _) hg7
    have hov7 := (hov5.ext hx6).keep2 hg7 hap.symm
    have hap7 : Apart v u7 := (hap.symm.next (hov5.ext hx6) hn7).symm
    obtain ⟨hh1, hh2, hh3⟩ := hov7.head .i64 q (by omega)
    obtain ⟨ht1, ht2⟩ := hov7.sq.tail .i64 (q + 1) (by omega)
    simp only [↓vsd, vsn, gW, qd, qv, ev, pick, argE, List.map_cons, List.map_nil, Option.map_some, Option.map_none, zipE, List.cons_append, List.nil_append, ne_eq, eq_self, forall_const, implies_true, if_true, if_false, reduceIte, List.cons.injEq, reduceCtorEq, Nat.reduceEqDiff, List.length_nil, List.length_cons, Nat.reduceAdd, Nat.reduceLT, List.set_cons_zero, List.set_cons_succ, ↓us_irowOf, r_irowOf, hov7.sq.facts, hh1]
    have hxd : Ext w7 w7.drew := dr (Ext.refl _)
    refine ⟨inR_i64 (by omega), of_eq_true ht1, m_app2 (hh2.ext hxd) (ht2.ext hxd) fU_one (by decide) (by simp; omega) (by decide) (by have := hx7.size; exact this) ?_⟩
    rintro v8 w8 ho8 hg8 hn8
    rw [hh3] at hg8 hn8
    have hx8 : Ext w w8 := (hov7.ext hxd).grown (hx7.trans hxd) (Nat.le_refl _) hg8
    simp only [↓vsd, vsn, gW, qd, qv, ev, pick, argE, List.map_cons, List.map_nil, Option.map_some, Option.map_none, zipE, List.cons_append, List.nil_append, ne_eq, eq_self, forall_const, implies_true, if_true, if_false, reduceIte, List.cons.injEq, reduceCtorEq, Nat.reduceEqDiff, List.length_nil, List.length_cons, Nat.reduceAdd, Nat.reduceLT, List.set_cons_zero, List.set_cons_succ, ↓us_irowOf, r_irowOf]
    refine ⟨inR_i64 (by omega), UpTo.next (by omega) ⟨i, qm, v8, u7, _, _, by omega, ?_, ?_, hmod, ?_, ?_, ho8, (ho7.ext hxd).keep2 hg8 hap7, hap7.next (ho7.ext hxd) hn8, hx8⟩⟩
    · simp; omega
    · simp; omega
    · rw [← hgo, rowGo, hq, hqm]; simp
    · simp
theorem sRowOf_ok (n k : Nat) (hn : 3 ≤ n ∧ n < 9) (hk : k < factL n) (w : World) : Fn 48 [.int .i64 n, .int .i64 k] w (fun v _ => v = .tuple ⟨[S (rowGo n (roundsL n) k), .bool true]⟩) := by
  (refine callsV_of mix Try.func48 c_sRowOf ?_; simp only [↓vsd, vsn, gW, qd, qv, ev, pick, argE, List.map_cons, List.map_nil, Option.map_some, Option.map_none, zipE, List.cons_append, List.nil_append, ne_eq, eq_self, forall_const, implies_true, if_true, if_false, reduceIte, List.cons.injEq, reduceCtorEq, Nat.reduceEqDiff, List.length_nil, List.length_cons, Nat.reduceAdd, Nat.reduceLT, List.set_cons_zero, List.set_cons_succ, ↓us_sRowOf, r_sRowOf])
  refine m_call (sl1In_ok _ _ _ _) ?_
  rintro _ w1 hx1 rfl
  have h3 : 3 ≤ (n : Int) := by omega
  have h8 : (n : Int) ≤ 8 := by omega
  have hf := factL_le n hn.2
  simp only [↓vsd, vsn, gW, qd, qv, ev, pick, argE, List.map_cons, List.map_nil, Option.map_some, Option.map_none, zipE, List.cons_append, List.nil_append, ne_eq, eq_self, forall_const, implies_true, if_true, if_false, reduceIte, List.cons.injEq, reduceCtorEq, Nat.reduceEqDiff, List.length_nil, List.length_cons, Nat.reduceAdd, Nat.reduceLT, List.set_cons_zero, List.set_cons_succ, ↓us_sRowOf, r_sRowOf, h3, h8]
  refine m_call (sl1Fact_ok n hn.2 _) ?_
  rintro _ w2 hx2 rfl
  simp only [↓vsd, vsn, gW, qd, qv, ev, pick, argE, List.map_cons, List.map_nil, Option.map_some, Option.map_none, zipE, List.cons_append, List.nil_append, ne_eq, eq_self, forall_const, implies_true, if_true, if_false, reduceIte, List.cons.injEq, reduceCtorEq, Nat.reduceEqDiff, List.length_nil, List.length_cons, Nat.reduceAdd, Nat.reduceLT, List.set_cons_zero, List.set_cons_succ, ↓us_sRowOf, r_sRowOf]
  refine ⟨inR_i64 (by omega), m_call (sl1In_ok _ _ _ _) ?_⟩
  rintro _ w3 hx3 rfl
  have h0 : 0 ≤ (k : Int) := by omega
  have hk1 : (k : Int) ≤ (factL n : Nat) - 1 := by omega
  simp only [↓vsd, vsn, gW, qd, qv, ev, pick, argE, List.map_cons, List.map_nil, Option.map_some, Option.map_none, zipE, List.cons_append, List.nil_append, ne_eq, eq_self, forall_const, implies_true, if_true, if_false, reduceIte, List.cons.injEq, reduceCtorEq, Nat.reduceEqDiff, List.length_nil, List.length_cons, Nat.reduceAdd, Nat.reduceLT, List.set_cons_zero, List.set_cons_succ, ↓us_sRowOf, r_sRowOf, h0, hk1]
  refine m_call (sl1Rounds_ok n hn.2 _) ?_
  rintro _ w4 hx4 rfl
  simp only [↓vsd, vsn, gW, qd, qv, ev, pick, argE, List.map_cons, List.map_nil, Option.map_some, Option.map_none, zipE, List.cons_append, List.nil_append, ne_eq, eq_self, forall_const, implies_true, if_true, if_false, reduceIte, List.cons.injEq, reduceCtorEq, Nat.reduceEqDiff, List.length_nil, List.length_cons, Nat.reduceAdd, Nat.reduceLT, List.set_cons_zero, List.set_cons_succ, ↓us_sRowOf, r_sRowOf]
  have hx14 := ((hx1.trans hx2).trans hx3).trans hx4
  refine m_upto n (fun r vs w' => ∃ (i kk : Nat) (L O : List UInt8), i + r = n ∧ L.length = i ∧ O.length = r ∧ kk < factL i ∧ O ++ rowGo i L kk = rowGo n (roundsL n) k ∧ vs = [.int .i64 kk, S L, S O] ∧ Ext w w') ⟨n, k, roundsL n, [], rfl, roundsL_len n, rfl, hk, rfl, rfl, hx14⟩ ?_
  rintro r vs w5 hr ⟨i, kk, L, O, hir, hL, hO, hkk, hgo, rfl, hx5⟩
  simp only [↓vsd, vsn, gW, qd, qv, ev, pick, argE, List.map_cons, List.map_nil, Option.map_some, Option.map_none, zipE, List.cons_append, List.nil_append, ne_eq, eq_self, forall_const, implies_true, if_true, if_false, reduceIte, List.cons.injEq, reduceCtorEq, Nat.reduceEqDiff, List.length_nil, List.length_cons, Nat.reduceAdd, Nat.reduceLT, List.set_cons_zero, List.set_cons_succ, ↓us_sRowOf, r_sRowOf, hL]
  cases i with
  | zero =>
    refine ⟨fun h => by omega, fun _ => ⟨hx5, by rw [← hgo]; simp [rowGo]⟩⟩
  | succ i =>
    refine ⟨fun _ => ⟨inR_i64 (by omega), ?_⟩, fun h => by omega⟩
    rw [show ((i + 1 : Nat) : Int) - 1 = (i : Nat) by omega]
    refine m_call (sl1Fact_ok i (by omega) _) ?_
    rintro _ w6 hx6 rfl
    have hfi := factL_le i (by omega)
    obtain ⟨hat, hmod⟩ := rank_lt i kk hkk
    have hne : ¬ ((factL i : Nat) : Int) = 0 := by omega
    simp only [↓vsd, vsn, gW, qd, qv, ev, pick, argE, List.map_cons, List.map_nil, Option.map_some, Option.map_none, zipE, List.cons_append, List.nil_append, ne_eq, eq_self, forall_const, implies_true, if_true, if_false, reduceIte, List.cons.injEq, reduceCtorEq, Nat.reduceEqDiff, List.length_nil, List.length_cons, Nat.reduceAdd, Nat.reduceLT, List.set_cons_zero, List.set_cons_succ, ↓us_sRowOf, r_sRowOf, hne]
    generalize hq : kk / factL i = q at *
    generalize hqm : kk % factL i = qm at *
    have e1 : (L.take (q + 1)).drop q = [L.getD q 0] := by
      rw [List.take_add_one, List.drop_append, List.getD_eq_getElem?_getD, List.getElem?_eq_getElem (by omega)]
      simp [Nat.min_eq_left (show q ≤ L.length by omega)]
    rw [e1]
    have hl1 : (L.take q).length ≤ 8 := by simp; omega
    have hl2 : (L.drop (q + 1)).length ≤ 8 := by simp; omega
    refine ⟨inR_i64 (by omega), inR_i64 (by omega), by omega, by simp; omega, by omega, inR_i64 (by omega), by omega, by omega, UpTo.next (by omega) ⟨i, qm, _, _, by omega, ?_, ?_, hmod, ?_, rfl, dr (hx5.trans hx6)⟩⟩
    · simp; omega
    · simp; omega
    · rw [← hgo, rowGo, hq, hqm]; simp
/-- The rows of stage n that fit a pattern, those below rank k. -/
def fitRows (p : List UInt8) (n k : Nat) : List (List UInt8) := ((List.range k).map (rowGo n (roundsL n))).filter (fitsL p)
theorem fitRows_len (p : List UInt8) (n k : Nat) : (fitRows p n k).length ≤ k := by
  unfold fitRows
  refine Nat.le_trans (List.length_filter_le _ _) ?_
  simp
theorem fitRows_succ (p : List UInt8) (n k : Nat) : fitRows p n (k + 1) = fitRows p n k ++ if fitsL p (rowGo n (roundsL n) k) then [rowGo n (roundsL n) k] else [] := by
  unfold fitRows
  rw [List.range_succ, List.map_append, List.filter_append]
  simp only [List.map_cons, List.map_nil, List.filter_cons, List.filter_nil]
/-- What RowsThatFit answers. -/
def fitAll (p : List UInt8) (n : Int) : List (List UInt8) := if IsPat p ∧ 3 ≤ n ∧ n ≤ 6 then fitRows p n.toNat (factL n.toNat) else []
theorem fitAll_len (p : List UInt8) (n : Int) : (fitAll p n).length ≤ 40320 := by
  unfold fitAll
  split
  · have := fitRows_len p n.toNat (factL n.toNat)
    have := factL_le n.toNat (by omega)
    omega
  · simp
theorem iRowsThatFit_ok (p : List UInt8) (n : Int) (hp : p.length ≤ 1048576) (w : World) :
    Fn 16 [S p, .int .i64 n] w (fun v w' => ∃ x, v = .tuple ⟨[x, .bool (decide (IsPat p ∧ 3 ≤ n ∧ n ≤ 6))]⟩ ∧ Own fS 1 9 w.heap.size w' x (fitAll p n)) := by
  (refine callsV_of mix Try.func16 c_iRowsThatFit ?_; simp only [↓vsd, vsn, gW, qd, qv, ev, pick, argE, List.map_cons, List.map_nil, Option.map_some, Option.map_none, zipE, List.cons_append, List.nil_append, ne_eq, eq_self, forall_const, implies_true, if_true, if_false, reduceIte, List.cons.injEq, reduceCtorEq, Nat.reduceEqDiff, List.length_nil, List.length_cons, Nat.reduceAdd, Nat.reduceLT, List.set_cons_zero, List.set_cons_succ, ↓us_iRowsThatFit, r_iRowsThatFit])
  refine m_call (iGoodPattern_ok p (by omega) _) ?_
  rintro _ w1 hx1 rfl
  simp only [↓vsd, vsn, gW, qd, qv, ev, pick, argE, List.map_cons, List.map_nil, Option.map_some, Option.map_none, zipE, List.cons_append, List.nil_append, ne_eq, eq_self, forall_const, implies_true, if_true, if_false, reduceIte, List.cons.injEq, reduceCtorEq, Nat.reduceEqDiff, List.length_nil, List.length_cons, Nat.reduceAdd, Nat.reduceLT, List.set_cons_zero, List.set_cons_succ, ↓us_iRowsThatFit, r_iRowsThatFit]
  refine ⟨fun h1 => ?_, fun h1 => ⟨hx1, .slice none 0 0, by simp [h1], by rw [fitAll, if_neg (fun h => h1 h.1)]; exact Own.nil fS_len⟩⟩
  refine m_call (iwithin_ok _ _ _ _) ?_
  rintro _ w2 hx2 rfl
  simp only [↓vsd, vsn, gW, qd, qv, ev, pick, argE, List.map_cons, List.map_nil, Option.map_some, Option.map_none, zipE, List.cons_append, List.nil_append, ne_eq, eq_self, forall_const, implies_true, if_true, if_false, reduceIte, List.cons.injEq, reduceCtorEq, Nat.reduceEqDiff, List.length_nil, List.length_cons, Nat.reduceAdd, Nat.reduceLT, List.set_cons_zero, List.set_cons_succ, ↓us_iRowsThatFit, r_iRowsThatFit]
  have hx12 := hx1.trans hx2
  refine ⟨fun h2 => ?_, fun h2 => ?_⟩
  · have hno : ¬ (IsPat p ∧ 3 ≤ n ∧ n ≤ 6) := by
      rintro ⟨a, b, c⟩
      rcases h2 with h | h
      · exact h a
      · omega
    exact ⟨hx12, .slice none 0 0, by simp only [hno, decide_false], by rw [fitAll, if_neg hno]; exact Own.nil fS_len⟩
  obtain ⟨n, rfl⟩ : ∃ m : Nat, n = m := ⟨n.toNat, by omega⟩
  refine m_bsl (fun _ h => by cases h) ?_
  rintro b w3 hb hblk hx3 hs3
  simp only [↓vsd, vsn, gW, qd, qv, ev, pick, argE, List.map_cons, List.map_nil, Option.map_some, Option.map_none, zipE, List.cons_append, List.nil_append, ne_eq, eq_self, forall_const, implies_true, if_true, if_false, reduceIte, List.cons.injEq, reduceCtorEq, Nat.reduceEqDiff, List.length_nil, List.length_cons, Nat.reduceAdd, Nat.reduceLT, List.set_cons_zero, List.set_cons_succ, ↓us_iRowsThatFit, r_iRowsThatFit]
  refine m_call (ifactorial_ok n (by omega) _) ?_
  rintro _ w4 hx4 rfl
  simp only [↓vsd, vsn, gW, qd, qv, ev, pick, argE, List.map_cons, List.map_nil, Option.map_some, Option.map_none, zipE, List.cons_append, List.nil_append, ne_eq, eq_self, forall_const, implies_true, if_true, if_false, reduceIte, List.cons.injEq, reduceCtorEq, Nat.reduceEqDiff, List.length_nil, List.length_cons, Nat.reduceAdd, Nat.reduceLT, List.set_cons_zero, List.set_cons_succ, ↓us_iRowsThatFit, r_iRowsThatFit]
  have hf := factL_le n (by omega)
  have hx14 := (hx12.trans hx3).trans hx4
  refine m_upto (factL n) (fun k vs w' => ∃ x, vs = [x, .int .i64 k] ∧ Own fS 1 9 w.heap.size w' x (fitRows p n k) ∧ Ext w w') ⟨_, rfl, (Own.empty fS_len hblk (by have := hx12.size; omega)).ext hx4, hx14⟩ ?_
  rintro k vs w5 hk ⟨x, rfl, ho, hx5⟩
  by_cases hlt : k < factL n
  · have hltI : (k : Int) < (factL n : Nat) := by omega
    have hltJ : ¬ ((factL n : Nat) : Int) ≤ k := by omega
    simp only [↓vsd, vsn, gW, qd, qv, ev, pick, argE, List.map_cons, List.map_nil, Option.map_some, Option.map_none, zipE, List.cons_append, List.nil_append, ne_eq, eq_self, forall_const, implies_true, if_true, if_false, reduceIte, List.cons.injEq, reduceCtorEq, Nat.reduceEqDiff, List.length_nil, List.length_cons, Nat.reduceAdd, Nat.reduceLT, List.set_cons_zero, List.set_cons_succ, ↓us_iRowsThatFit, r_iRowsThatFit, hltI, hltJ]
    refine m_call (irowOf_ok n k (by omega) hlt _) ?_
    rintro _ w6 hx6 rfl
    simp only [↓vsd, vsn, gW, qd, qv, ev, pick, argE, List.map_cons, List.map_nil, Option.map_some, Option.map_none, zipE, List.cons_append, List.nil_append, ne_eq, eq_self, forall_const, implies_true, if_true, if_false, reduceIte, List.cons.injEq, reduceCtorEq, Nat.reduceEqDiff, List.length_nil, List.length_cons, Nat.reduceAdd, Nat.reduceLT, List.set_cons_zero, List.set_cons_succ, ↓us_iRowsThatFit, r_iRowsThatFit]
    refine m_call (ifits_ok _ _ _ (Nat.le_refl _) _) ?_
    rintro _ w7 hx7 rfl
    simp only [↓vsd, vsn, gW, qd, qv, ev, pick, argE, List.map_cons, List.map_nil, Option.map_some, Option.map_none, zipE, List.cons_append, List.nil_append, ne_eq, eq_self, forall_const, implies_true, if_true, if_false, reduceIte, List.cons.injEq, reduceCtorEq, Nat.reduceEqDiff, List.length_nil, List.length_cons, Nat.reduceAdd, Nat.reduceLT, List.set_cons_zero, List.set_cons_succ, ↓us_iRowsThatFit, r_iRowsThatFit]
    have hx57 := (hx5.trans hx6).trans hx7
    have hs := fitRows_succ p n k
    have hl := fitRows_len p n k
    refine ⟨fun hy => m_bsl (one_el rfl) ?_, fun hn => ⟨inR_i64 (by omega), UpTo.next hlt ⟨_, rfl, ((ho.ext hx6).ext hx7).to (by rw [hs, if_neg hn, List.append_nil]), hx57⟩⟩⟩
    rintro b8 w8 hb8 hblk8 hx8 hs8
    simp only [↓vsd, vsn, gW, qd, qv, ev, pick, argE, List.map_cons, List.map_nil, Option.map_some, Option.map_none, zipE, List.cons_append, List.nil_append, ne_eq, eq_self, forall_const, implies_true, if_true, if_false, reduceIte, List.cons.injEq, reduceCtorEq, Nat.reduceEqDiff, List.length_nil, List.length_cons, Nat.reduceAdd, Nat.reduceLT, List.set_cons_zero, List.set_cons_succ, ↓us_iRowsThatFit, r_iRowsThatFit]
    refine m_app (((ho.ext hx6).ext hx7).ext hx8) (Sq.one fS_len hblk8 rfl) fS_one (by decide) (by simp; omega) (by decide) (Nat.le_trans hx57.size hx8.size) ?_
    rintro x9 w9 ho9 hg9
    simp only [↓vsd, vsn, gW, qd, qv, ev, pick, argE, List.map_cons, List.map_nil, Option.map_some, Option.map_none, zipE, List.cons_append, List.nil_append, ne_eq, eq_self, forall_const, implies_true, if_true, if_false, reduceIte, List.cons.injEq, reduceCtorEq, Nat.reduceEqDiff, List.length_nil, List.length_cons, Nat.reduceAdd, Nat.reduceLT, List.set_cons_zero, List.set_cons_succ, ↓us_iRowsThatFit, r_iRowsThatFit]
    exact ⟨inR_i64 (by omega), UpTo.next hlt ⟨_, rfl, ho9.to (by rw [hs, if_pos hy]), (((ho.ext hx6).ext hx7).ext hx8).grown (hx57.trans hx8) (Nat.le_refl _) hg9⟩⟩
  · obtain rfl : k = factL n := by omega
    have hltI : ¬ ((factL n : Nat) : Int) < (factL n : Nat) := by omega
    simp only [↓vsd, vsn, gW, qd, qv, ev, pick, argE, List.map_cons, List.map_nil, Option.map_some, Option.map_none, zipE, List.cons_append, List.nil_append, ne_eq, eq_self, forall_const, implies_true, if_true, if_false, reduceIte, List.cons.injEq, reduceCtorEq, Nat.reduceEqDiff, List.length_nil, List.length_cons, Nat.reduceAdd, Nat.reduceLT, List.set_cons_zero, List.set_cons_succ, ↓us_iRowsThatFit, r_iRowsThatFit, hltI]
    exact ⟨hx5, x, by simp [h2], ho.to (by rw [fitAll, if_pos h2]; rfl)⟩
theorem sRowsThatFit_ok (p : List UInt8) (n : Int) (hp : p.length ≤ 1048576) (w : World) :
    Fn 15 [S p, .int .i64 n] w (fun v w' => ∃ x, v = .tuple ⟨[x, .bool (decide (IsPat p ∧ 3 ≤ n ∧ n ≤ 6))]⟩ ∧ Own fS 1 9 w.heap.size w' x (fitAll p n)) := by
  (refine callsV_of mix Try.func15 c_sRowsThatFit ?_; simp only [↓vsd, vsn, gW, qd, qv, ev, pick, argE, List.map_cons, List.map_nil, Option.map_some, Option.map_none, zipE, List.cons_append, List.nil_append, ne_eq, eq_self, forall_const, implies_true, if_true, if_false, reduceIte, List.cons.injEq, reduceCtorEq, Nat.reduceEqDiff, List.length_nil, List.length_cons, Nat.reduceAdd, Nat.reduceLT, List.set_cons_zero, List.set_cons_succ, ↓us_sRowsThatFit, r_sRowsThatFit])
  refine m_call (sl16Good_ok p (by omega) _) ?_
  rintro _ w1 hx1 rfl
  simp only [↓vsd, vsn, gW, qd, qv, ev, pick, argE, List.map_cons, List.map_nil, Option.map_some, Option.map_none, zipE, List.cons_append, List.nil_append, ne_eq, eq_self, forall_const, implies_true, if_true, if_false, reduceIte, List.cons.injEq, reduceCtorEq, Nat.reduceEqDiff, List.length_nil, List.length_cons, Nat.reduceAdd, Nat.reduceLT, List.set_cons_zero, List.set_cons_succ, ↓us_sRowsThatFit, r_sRowsThatFit]
  refine ⟨fun h1 => ?_, fun h1 => ⟨hx1, .slice none 0 0, by simp [h1], by rw [fitAll, if_neg (fun h => h1 h.1)]; exact Own.nil fS_len⟩⟩
  refine m_call (sl1In_ok _ _ _ _) ?_
  rintro _ w2 hx2 rfl
  simp only [↓vsd, vsn, gW, qd, qv, ev, pick, argE, List.map_cons, List.map_nil, Option.map_some, Option.map_none, zipE, List.cons_append, List.nil_append, ne_eq, eq_self, forall_const, implies_true, if_true, if_false, reduceIte, List.cons.injEq, reduceCtorEq, Nat.reduceEqDiff, List.length_nil, List.length_cons, Nat.reduceAdd, Nat.reduceLT, List.set_cons_zero, List.set_cons_succ, ↓us_sRowsThatFit, r_sRowsThatFit]
  have hx12 := hx1.trans hx2
  refine ⟨fun h2 => ?_, fun h2 => ?_⟩
  · have hno : ¬ (IsPat p ∧ 3 ≤ n ∧ n ≤ 6) := by
      rintro ⟨a, b, c⟩
      rcases h2 with h | h
      · exact h a
      · omega
    exact ⟨hx12, .slice none 0 0, by simp only [hno, decide_false], by rw [fitAll, if_neg hno]; exact Own.nil fS_len⟩
  obtain ⟨n, rfl⟩ : ∃ m : Nat, n = m := ⟨n.toNat, by omega⟩
  have hf := factL_le n (by omega)
  refine m_upto (factL n) (fun k vs w' => ∃ x, vs = [x, .int .i64 k] ∧ Own fS 1 9 w.heap.size w' x (fitRows p n k) ∧ Ext w w') ⟨_, rfl, Own.nil fS_len, hx12⟩ ?_
  rintro k vs w5 hk ⟨x, rfl, ho, hx5⟩
  simp only [↓vsd, vsn, gW, qd, qv, ev, pick, argE, List.map_cons, List.map_nil, Option.map_some, Option.map_none, zipE, List.cons_append, List.nil_append, ne_eq, eq_self, forall_const, implies_true, if_true, if_false, reduceIte, List.cons.injEq, reduceCtorEq, Nat.reduceEqDiff, List.length_nil, List.length_cons, Nat.reduceAdd, Nat.reduceLT, List.set_cons_zero, List.set_cons_succ, ↓us_sRowsThatFit, r_sRowsThatFit]
  refine m_call (sl1Fact_ok n (by omega) _) ?_
  rintro _ w6 hx6 rfl
  by_cases hlt : k < factL n
  · have hltI : (k : Int) < (factL n : Nat) := by omega
    have hltJ : ¬ ((factL n : Nat) : Int) ≤ k := by omega
    simp only [↓vsd, vsn, gW, qd, qv, ev, pick, argE, List.map_cons, List.map_nil, Option.map_some, Option.map_none, zipE, List.cons_append, List.nil_append, ne_eq, eq_self, forall_const, implies_true, if_true, if_false, reduceIte, List.cons.injEq, reduceCtorEq, Nat.reduceEqDiff, List.length_nil, List.length_cons, Nat.reduceAdd, Nat.reduceLT, List.set_cons_zero, List.set_cons_succ, ↓us_sRowsThatFit, r_sRowsThatFit, hltI, hltJ]
    refine m_call (sRowOf_ok n k (by omega) hlt _) ?_
    rintro _ w7 hx7 rfl
    simp only [↓vsd, vsn, gW, qd, qv, ev, pick, argE, List.map_cons, List.map_nil, Option.map_some, Option.map_none, zipE, List.cons_append, List.nil_append, ne_eq, eq_self, forall_const, implies_true, if_true, if_false, reduceIte, List.cons.injEq, reduceCtorEq, Nat.reduceEqDiff, List.length_nil, List.length_cons, Nat.reduceAdd, Nat.reduceLT, List.set_cons_zero, List.set_cons_succ, ↓us_sRowsThatFit, r_sRowsThatFit]
    refine m_call (sl16Fits_ok _ _ _ (Nat.le_refl _) _) ?_
    rintro _ w8 hx8 rfl
    simp only [↓vsd, vsn, gW, qd, qv, ev, pick, argE, List.map_cons, List.map_nil, Option.map_some, Option.map_none, zipE, List.cons_append, List.nil_append, ne_eq, eq_self, forall_const, implies_true, if_true, if_false, reduceIte, List.cons.injEq, reduceCtorEq, Nat.reduceEqDiff, List.length_nil, List.length_cons, Nat.reduceAdd, Nat.reduceLT, List.set_cons_zero, List.set_cons_succ, ↓us_sRowsThatFit, r_sRowsThatFit]
    have hx68 := (hx6.trans hx7).trans hx8
    have hx58 := hx5.trans hx68
    have hs := fitRows_succ p n k
    have hl := fitRows_len p n k
    refine ⟨fun hy => m_bsl (one_el rfl) ?_, fun hn => ⟨inR_i64 (by omega), UpTo.next hlt ⟨_, rfl, (ho.ext hx68).to (by rw [hs, if_neg hn, List.append_nil]), hx58⟩⟩⟩
    rintro b9 w9 hb9 hblk9 hx9 hs9
    simp only [↓vsd, vsn, gW, qd, qv, ev, pick, argE, List.map_cons, List.map_nil, Option.map_some, Option.map_none, zipE, List.cons_append, List.nil_append, ne_eq, eq_self, forall_const, implies_true, if_true, if_false, reduceIte, List.cons.injEq, reduceCtorEq, Nat.reduceEqDiff, List.length_nil, List.length_cons, Nat.reduceAdd, Nat.reduceLT, List.set_cons_zero, List.set_cons_succ, ↓us_sRowsThatFit, r_sRowsThatFit]
    refine m_app ((ho.ext hx68).ext hx9) (Sq.one fS_len hblk9 rfl) fS_one (by decide) (by simp; omega) (by decide) (Nat.le_trans hx58.size hx9.size) ?_
    rintro x10 w10 ho10 hg10
    simp only [↓vsd, vsn, gW, qd, qv, ev, pick, argE, List.map_cons, List.map_nil, Option.map_some, Option.map_none, zipE, List.cons_append, List.nil_append, ne_eq, eq_self, forall_const, implies_true, if_true, if_false, reduceIte, List.cons.injEq, reduceCtorEq, Nat.reduceEqDiff, List.length_nil, List.length_cons, Nat.reduceAdd, Nat.reduceLT, List.set_cons_zero, List.set_cons_succ, ↓us_sRowsThatFit, r_sRowsThatFit]
    exact ⟨inR_i64 (by omega), UpTo.next hlt ⟨_, rfl, ho10.to (by rw [hs, if_pos hy]), ((ho.ext hx68).ext hx9).grown (hx58.trans hx9) (Nat.le_refl _) hg10⟩⟩
  · obtain rfl : k = factL n := by omega
    have hltI : ¬ ((factL n : Nat) : Int) < (factL n : Nat) := by omega
    simp only [↓vsd, vsn, gW, qd, qv, ev, pick, argE, List.map_cons, List.map_nil, Option.map_some, Option.map_none, zipE, List.cons_append, List.nil_append, ne_eq, eq_self, forall_const, implies_true, if_true, if_false, reduceIte, List.cons.injEq, reduceCtorEq, Nat.reduceEqDiff, List.length_nil, List.length_cons, Nat.reduceAdd, Nat.reduceLT, List.set_cons_zero, List.set_cons_succ, ↓us_sRowsThatFit, r_sRowsThatFit, hltI]
    exact ⟨hx5.trans hx6, x, by simp [h2], (ho.ext hx6).to (by rw [fitAll, if_pos h2]; rfl)⟩
theorem lFnExactRowsThatFit_ok (p : List UInt8) (n : Int) (w : World) : Fn 3 [S p, .int .i64 n] w (fun v _ => v = .bool true) := by
  (refine callsV_of mix Try.func3 c_lFnExactRowsThatFit ?_; simp only [↓vsd, vsn, gW, qd, qv, ev, pick, argE, List.map_cons, List.map_nil, Option.map_some, Option.map_none, zipE, List.cons_append, List.nil_append, ne_eq, eq_self, forall_const, implies_true, if_true, if_false, reduceIte, List.cons.injEq, reduceCtorEq, Nat.reduceEqDiff, List.length_nil, List.length_cons, Nat.reduceAdd, Nat.reduceLT, List.set_cons_zero, List.set_cons_succ, ↓us_lFnExactRowsThatFit, r_lFnExactRowsThatFit])
  refine ⟨fun _ => Ext.refl _, fun hl => ?_⟩
  have hlen := fitAll_len p n
  refine m_call (sRowsThatFit_ok p n (by omega) _) ?_
  rintro _ w1 hx1 ⟨x1, rfl, ho1⟩
  simp only [↓vsd, vsn, gW, qd, qv, ev, pick, argE, List.map_cons, List.map_nil, Option.map_some, Option.map_none, zipE, List.cons_append, List.nil_append, ne_eq, eq_self, forall_const, implies_true, if_true, if_false, reduceIte, List.cons.injEq, reduceCtorEq, Nat.reduceEqDiff, List.length_nil, List.length_cons, Nat.reduceAdd, Nat.reduceLT, List.set_cons_zero, List.set_cons_succ, ↓us_lFnExactRowsThatFit, r_lFnExactRowsThatFit]
  refine m_call (iRowsThatFit_ok p n (by omega) _) ?_
  rintro _ w2 hx2 ⟨x2, rfl, ho2⟩
  simp only [↓vsd, vsn, gW, qd, qv, ev, pick, argE, List.map_cons, List.map_nil, Option.map_some, Option.map_none, zipE, List.cons_append, List.nil_append, ne_eq, eq_self, forall_const, implies_true, if_true, if_false, reduceIte, List.cons.injEq, reduceCtorEq, Nat.reduceEqDiff, List.length_nil, List.length_cons, Nat.reduceAdd, Nat.reduceLT, List.set_cons_zero, List.set_cons_succ, ↓us_lFnExactRowsThatFit, r_lFnExactRowsThatFit]
  refine m_call (leqStringS_ok x2 x1 _ _ _ ho2.sq (ho1.sq.ext hx2) (by omega)) ?_
  rintro _ w3 hx3 rfl
  simp only [↓vsd, vsn, gW, qd, qv, ev, pick, argE, List.map_cons, List.map_nil, Option.map_some, Option.map_none, zipE, List.cons_append, List.nil_append, ne_eq, eq_self, forall_const, implies_true, if_true, if_false, reduceIte, List.cons.injEq, reduceCtorEq, Nat.reduceEqDiff, List.length_nil, List.length_cons, Nat.reduceAdd, Nat.reduceLT, List.set_cons_zero, List.set_cons_succ, ↓us_lFnExactRowsThatFit, r_lFnExactRowsThatFit]
  have ho3 := ho2.ext hx3
  refine m_callw (.inl rfl) (lmarkStringS_ok x2 _ _ 1 (by omega) (by omega) _ ho3) ?_
  rintro _ w4 ⟨rfl, ho4, hg4⟩
  have hx4 : Ext w w4 := (ho3.mono hx1.size).grown ((hx1.trans hx2).trans hx3) (Nat.le_refl _) hg4
  have hk4 : Own fS 1 9 w.heap.size w4 x1 (fitAll p n) := ((ho1.ext hx2).ext hx3).same fun g hg => hg4.block g (by have := ho1.lt g hg; have := hx2.size; have := hx3.size; omega) (fun he => by have := (ho3.bound g he.symm).1; have := ho1.lt g hg; omega)
  simp only [↓vsd, vsn, gW, qd, qv, ev, pick, argE, List.map_cons, List.map_nil, Option.map_some, Option.map_none, zipE, List.cons_append, List.nil_append, ne_eq, eq_self, forall_const, implies_true, if_true, if_false, reduceIte, List.cons.injEq, reduceCtorEq, Nat.reduceEqDiff, List.length_nil, List.length_cons, Nat.reduceAdd, Nat.reduceLT, List.set_cons_zero, List.set_cons_succ, ↓us_lFnExactRowsThatFit, r_lFnExactRowsThatFit]
  refine m_call (lheldStringS_ok x2 (fitAll p n).length 1 (by omega) (by omega) _ ho4.sq) ?_
  rintro _ w5 hx5 rfl
  simp only [↓vsd, vsn, gW, qd, qv, ev, pick, argE, List.map_cons, List.map_nil, Option.map_some, Option.map_none, zipE, List.cons_append, List.nil_append, ne_eq, eq_self, forall_const, implies_true, if_true, if_false, reduceIte, List.cons.injEq, reduceCtorEq, Nat.reduceEqDiff, List.length_nil, List.length_cons, Nat.reduceAdd, Nat.reduceLT, List.set_cons_zero, List.set_cons_succ, ↓us_lFnExactRowsThatFit, r_lFnExactRowsThatFit]
  refine ⟨fun h => by omega, fun _ => ?_⟩
  refine m_call (iRowsThatFit_ok p n (by omega) _) ?_
  rintro _ w6 hx6 ⟨x6, rfl, ho6⟩
  simp only [↓vsd, vsn, gW, qd, qv, ev, pick, argE, List.map_cons, List.map_nil, Option.map_some, Option.map_none, zipE, List.cons_append, List.nil_append, ne_eq, eq_self, forall_const, implies_true, if_true, if_false, reduceIte, List.cons.injEq, reduceCtorEq, Nat.reduceEqDiff, List.length_nil, List.length_cons, Nat.reduceAdd, Nat.reduceLT, List.set_cons_zero, List.set_cons_succ, ↓us_lFnExactRowsThatFit, r_lFnExactRowsThatFit]
  refine m_call (leqStringS_ok x6 x1 _ _ _ ho6.sq ((hk4.ext hx5).ext hx6).sq (by omega)) ?_
  rintro _ w7 hx7 rfl
  simp only [↓vsd, vsn, gW, qd, qv, ev, pick, argE, List.map_cons, List.map_nil, Option.map_some, Option.map_none, zipE, List.cons_append, List.nil_append, ne_eq, eq_self, forall_const, implies_true, if_true, if_false, reduceIte, List.cons.injEq, reduceCtorEq, Nat.reduceEqDiff, List.length_nil, List.length_cons, Nat.reduceAdd, Nat.reduceLT, List.set_cons_zero, List.set_cons_succ, ↓us_lFnExactRowsThatFit, r_lFnExactRowsThatFit]
  refine m_call (lheldStringS_ok x2 (fitAll p n).length 1 (by omega) (by omega) _ (((ho4.ext hx5).ext hx6).ext hx7).sq) ?_
  rintro _ w8 hx8 rfl
  simp only [↓vsd, vsn, gW, qd, qv, ev, pick, argE, List.map_cons, List.map_nil, Option.map_some, Option.map_none, zipE, List.cons_append, List.nil_append, ne_eq, eq_self, forall_const, implies_true, if_true, if_false, reduceIte, List.cons.injEq, reduceCtorEq, Nat.reduceEqDiff, List.length_nil, List.length_cons, Nat.reduceAdd, Nat.reduceLT, List.set_cons_zero, List.set_cons_succ, ↓us_lFnExactRowsThatFit, r_lFnExactRowsThatFit]
  exact ⟨fun h => by omega, fun _ => (((hx4.trans hx5).trans hx6).trans hx7).trans hx8⟩
end Go.Proofs.Ytnocgihggdgkeaa
