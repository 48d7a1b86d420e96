/-
  The score of rows; the call of the law FnExactScoreRows.
  Conditions: none.
-/
import Derived.Test.YtffhjhjmbkcibaaA5
import Derived.Test.YtffhjhjmbkcibaaA7
set_option linter.unusedSimpArgs false
set_option linter.unusedVariables false
set_option linter.defProp false
namespace Go.Proofs.Ytffhjhjmbkcibaa
open Go Go.RowKit
def t_iscoreOf_1 : X := (.drw [1, 5, 8, 9, 10] [.q 14 [] (.mv (.t 5)), .q 15 [] (.fa 1 (.t 7)), .q 16 [] (.ld (.t 15)), .q 17 [] (.fa 0 (.t 7)), .q 18 [] (.ld (.t 17)), .q 19 [] (.mv (.t 1)), .e (some 20) [] (.call false 95 [(.t 18), (.t 19)]), .q 21 [] (.bin .mul (.t 16) (.t 20)), .q 22 [] (.bin .add (.t 14) (.t 21)), .q 5 [] (.mv (.t 22))])
theorem u_iscoreOf_1 (P : Program) (k : KT) (e : Env) (w : World) : vcK P t_iscoreOf_1 k e w = vcK P (.drw [1, 5, 8, 9, 10] [.q 14 [] (.mv (.t 5)), .q 15 [] (.fa 1 (.t 7)), .q 16 [] (.ld (.t 15)), .q 17 [] (.fa 0 (.t 7)), .q 18 [] (.ld (.t 17)), .q 19 [] (.mv (.t 1)), .e (some 20) [] (.call false 95 [(.t 18), (.t 19)]), .q 21 [] (.bin .mul (.t 16) (.t 20)), .q 22 [] (.bin .add (.t 14) (.t 21)), .q 5 [] (.mv (.t 22))]) k e w := rfl
def t_iscoreOf_2 : X := (.reg [1, 5, 8, 9, 10] [.q 23 [] (.bin .add (.t 10) (.c (.int .i64 1))), .q 10 [] (.mv (.t 23))])
theorem u_iscoreOf_2 (P : Program) (k : KT) (e : Env) (w : World) : vcK P t_iscoreOf_2 k e w = vcK P (.reg [1, 5, 8, 9, 10] [.q 23 [] (.bin .add (.t 10) (.c (.int .i64 1))), .q 10 [] (.mv (.t 23))]) k e w := rfl
def t_iscoreOf_3 : X := (.seq (.blk 1 (.seq (.reg [1, 5, 7, 8, 9, 10] [.q 12 [] (.ia 2 (.t 8) (.t 10)), .q 13 [] (.lda 2 (.t 12)), .e (some 7) [] (.al 99 [(S []), (.int .i64 0)]), .e none [] (.st 2 (.t 7) (.t 13))]) t_iscoreOf_1)) t_iscoreOf_2)
theorem u_iscoreOf_3 (P : Program) (k : KT) (e : Env) (w : World) : vcK P t_iscoreOf_3 k e w = vcK P (.seq (.blk 1 (.seq (.reg [1, 5, 7, 8, 9, 10] [.q 12 [] (.ia 2 (.t 8) (.t 10)), .q 13 [] (.lda 2 (.t 12)), .e (some 7) [] (.al 99 [(S []), (.int .i64 0)]), .e none [] (.st 2 (.t 7) (.t 13))]) t_iscoreOf_1)) t_iscoreOf_2) k e w := rfl
def t_iscoreOf_4 : X := (.seq (.cond (.t 11) .skip (.exit 0)) t_iscoreOf_3)
theorem u_iscoreOf_4 (P : Program) (k : KT) (e : Env) (w : World) : vcK P t_iscoreOf_4 k e w = vcK P (.seq (.cond (.t 11) .skip (.exit 0)) t_iscoreOf_3) k e w := rfl
def t_iscoreOf_5 : X := (.seq (.reg [1, 5, 8, 9, 10, 11] [.q 11 [] (.bin .lss (.t 10) (.t 9))]) t_iscoreOf_4)
theorem u_iscoreOf_5 (P : Program) (k : KT) (e : Env) (w : World) : vcK P t_iscoreOf_5 k e w = vcK P (.seq (.reg [1, 5, 8, 9, 10, 11] [.q 11 [] (.bin .lss (.t 10) (.t 9))]) t_iscoreOf_4) k e w := rfl
def t_iscoreOf_6 : X := (.blk 0 (.loop [5, 10] [1, 8, 9] t_iscoreOf_5))
theorem u_iscoreOf_6 (P : Program) (k : KT) (e : Env) (w : World) : vcK P t_iscoreOf_6 k e w = vcK P (.blk 0 (.loop [5, 10] [1, 8, 9] t_iscoreOf_5)) k e w := rfl
def t_iscoreOf_7 : X := (.seq (.reg [4] [.q 24 [] (.mv (.t 5)), .q 4 [] (.mv (.t 24))]) .ret)
theorem u_iscoreOf_7 (P : Program) (k : KT) (e : Env) (w : World) : vcK P t_iscoreOf_7 k e w = vcK P (.seq (.reg [4] [.q 24 [] (.mv (.t 5)), .q 4 [] (.mv (.t 24))]) .ret) k e w := rfl
def t_iscoreOf_8 : X := (.seq (.seq (.reg [1, 5, 8, 9, 10] [.q 8 [] (.mv (.t 0)), .q 9 [] (.lens (.t 8)), .q 10 [] (.mv (.c (.int .i64 0)))]) t_iscoreOf_6) t_iscoreOf_7)
theorem u_iscoreOf_8 (P : Program) (k : KT) (e : Env) (w : World) : vcK P t_iscoreOf_8 k e w = vcK P (.seq (.seq (.reg [1, 5, 8, 9, 10] [.q 8 [] (.mv (.t 0)), .q 9 [] (.lens (.t 8)), .q 10 [] (.mv (.c (.int .i64 0)))]) t_iscoreOf_6) t_iscoreOf_7) k e w := rfl
def t_iscoreOf_9 : X := (.seq (.reg [0, 1, 5] [.q 5 [] (.mv (.c (.int .i64 0)))]) t_iscoreOf_8)
theorem u_iscoreOf_9 (P : Program) (k : KT) (e : Env) (w : World) : vcK P t_iscoreOf_9 k e w = vcK P (.seq (.reg [0, 1, 5] [.q 5 [] (.mv (.c (.int .i64 0)))]) t_iscoreOf_8) k e w := rfl
def x_iscoreOf : X := (.seq (.reg [0, 1] [.q 4 [] (.mv (.c (.int .i64 0)))]) t_iscoreOf_9)
theorem u_iscoreOf (P : Program) (k : KT) (e : Env) (w : World) : vcK P x_iscoreOf k e w = vcK P (.seq (.reg [0, 1] [.q 4 [] (.mv (.c (.int .i64 0)))]) t_iscoreOf_9) k e w := rfl
def r_iscoreOf : List XO := [(.mv (.t 4))]
theorem c_iscoreOf : convF Try.prog [] Try.f115 [([0, 1], []), ([0, 1, 5], []), ([1, 5, 8, 9, 10], []), ([5, 10], [1, 8, 9]), ([1, 5, 8, 9, 10, 11], []), ([1, 5, 7, 8, 9, 10], []), ([1, 5, 8, 9, 10], []), ([1, 5, 8, 9, 10], []), ([4], [])] = some (x_iscoreOf, r_iscoreOf) := by kernel_rfl
def us_iscoreOf := And.intro @u_iscoreOf (And.intro @u_iscoreOf_1 (And.intro @u_iscoreOf_2 (And.intro @u_iscoreOf_3 (And.intro @u_iscoreOf_4 (And.intro @u_iscoreOf_5 (And.intro @u_iscoreOf_6 (And.intro @u_iscoreOf_7 (And.intro @u_iscoreOf_8 @u_iscoreOf_9))))))))
def t_sl16Score_1 : X := (.drw [1, 5, 8, 9, 10] [.q 14 [] (.mv (.t 5)), .q 15 [] (.fa 1 (.t 7)), .q 16 [] (.ld (.t 15)), .q 17 [] (.fa 0 (.t 7)), .q 18 [] (.ld (.t 17)), .q 19 [] (.mv (.t 1)), .e (some 20) [] (.call false 93 [(.t 18), (.t 19)]), .q 21 [] (.bin .mul (.t 16) (.t 20)), .q 22 [] (.bin .add (.t 14) (.t 21)), .q 5 [] (.mv (.t 22))])
theorem u_sl16Score_1 (P : Program) (k : KT) (e : Env) (w : World) : vcK P t_sl16Score_1 k e w = vcK P (.drw [1, 5, 8, 9, 10] [.q 14 [] (.mv (.t 5)), .q 15 [] (.fa 1 (.t 7)), .q 16 [] (.ld (.t 15)), .q 17 [] (.fa 0 (.t 7)), .q 18 [] (.ld (.t 17)), .q 19 [] (.mv (.t 1)), .e (some 20) [] (.call false 93 [(.t 18), (.t 19)]), .q 21 [] (.bin .mul (.t 16) (.t 20)), .q 22 [] (.bin .add (.t 14) (.t 21)), .q 5 [] (.mv (.t 22))]) k e w := rfl
def t_sl16Score_2 : X := (.reg [1, 5, 8, 9, 10] [.q 23 [] (.bin .add (.t 10) (.c (.int .i64 1))), .q 10 [] (.mv (.t 23))])
theorem u_sl16Score_2 (P : Program) (k : KT) (e : Env) (w : World) : vcK P t_sl16Score_2 k e w = vcK P (.reg [1, 5, 8, 9, 10] [.q 23 [] (.bin .add (.t 10) (.c (.int .i64 1))), .q 10 [] (.mv (.t 23))]) k e w := rfl
def t_sl16Score_3 : X := (.seq (.blk 1 (.seq (.reg [1, 5, 7, 8, 9, 10] [.q 12 [] (.ia 2 (.t 8) (.t 10)), .q 13 [] (.lda 2 (.t 12)), .e (some 7) [] (.al 99 [(S []), (.int .i64 0)]), .e none [] (.st 2 (.t 7) (.t 13))]) t_sl16Score_1)) t_sl16Score_2)
theorem u_sl16Score_3 (P : Program) (k : KT) (e : Env) (w : World) : vcK P t_sl16Score_3 k e w = vcK P (.seq (.blk 1 (.seq (.reg [1, 5, 7, 8, 9, 10] [.q 12 [] (.ia 2 (.t 8) (.t 10)), .q 13 [] (.lda 2 (.t 12)), .e (some 7) [] (.al 99 [(S []), (.int .i64 0)]), .e none [] (.st 2 (.t 7) (.t 13))]) t_sl16Score_1)) t_sl16Score_2) k e w := rfl
def t_sl16Score_4 : X := (.seq (.cond (.t 11) .skip (.exit 0)) t_sl16Score_3)
theorem u_sl16Score_4 (P : Program) (k : KT) (e : Env) (w : World) : vcK P t_sl16Score_4 k e w = vcK P (.seq (.cond (.t 11) .skip (.exit 0)) t_sl16Score_3) k e w := rfl
def t_sl16Score_5 : X := (.seq (.reg [1, 5, 8, 9, 10, 11] [.q 11 [] (.bin .lss (.t 10) (.t 9))]) t_sl16Score_4)
theorem u_sl16Score_5 (P : Program) (k : KT) (e : Env) (w : World) : vcK P t_sl16Score_5 k e w = vcK P (.seq (.reg [1, 5, 8, 9, 10, 11] [.q 11 [] (.bin .lss (.t 10) (.t 9))]) t_sl16Score_4) k e w := rfl
def t_sl16Score_6 : X := (.blk 0 (.loop [5, 10] [1, 8, 9] t_sl16Score_5))
theorem u_sl16Score_6 (P : Program) (k : KT) (e : Env) (w : World) : vcK P t_sl16Score_6 k e w = vcK P (.blk 0 (.loop [5, 10] [1, 8, 9] t_sl16Score_5)) k e w := rfl
def t_sl16Score_7 : X := (.seq (.reg [4] [.q 24 [] (.mv (.t 5)), .q 4 [] (.mv (.t 24))]) .ret)
theorem u_sl16Score_7 (P : Program) (k : KT) (e : Env) (w : World) : vcK P t_sl16Score_7 k e w = vcK P (.seq (.reg [4] [.q 24 [] (.mv (.t 5)), .q 4 [] (.mv (.t 24))]) .ret) k e w := rfl
def t_sl16Score_8 : X := (.seq (.seq (.reg [1, 5, 8, 9, 10] [.q 8 [] (.mv (.t 0)), .q 9 [] (.lens (.t 8)), .q 10 [] (.mv (.c (.int .i64 0)))]) t_sl16Score_6) t_sl16Score_7)
theorem u_sl16Score_8 (P : Program) (k : KT) (e : Env) (w : World) : vcK P t_sl16Score_8 k e w = vcK P (.seq (.seq (.reg [1, 5, 8, 9, 10] [.q 8 [] (.mv (.t 0)), .q 9 [] (.lens (.t 8)), .q 10 [] (.mv (.c (.int .i64 0)))]) t_sl16Score_6) t_sl16Score_7) k e w := rfl
def t_sl16Score_9 : X := (.seq (.reg [0, 1, 5] [.q 5 [] (.mv (.c (.int .i64 0)))]) t_sl16Score_8)
theorem u_sl16Score_9 (P : Program) (k : KT) (e : Env) (w : World) : vcK P t_sl16Score_9 k e w = vcK P (.seq (.reg [0, 1, 5] [.q 5 [] (.mv (.c (.int .i64 0)))]) t_sl16Score_8) k e w := rfl
def x_sl16Score : X := (.seq (.reg [0, 1] [.q 4 [] (.mv (.c (.int .i64 0)))]) t_sl16Score_9)
theorem u_sl16Score (P : Program) (k : KT) (e : Env) (w : World) : vcK P x_sl16Score k e w = vcK P (.seq (.reg [0, 1] [.q 4 [] (.mv (.c (.int .i64 0)))]) t_sl16Score_9) k e w := rfl
def r_sl16Score : List XO := [(.mv (.t 4))]
theorem c_sl16Score : convF Try.prog [] Try.f112 [([0, 1], []), ([0, 1, 5], []), ([1, 5, 8, 9, 10], []), ([5, 10], [1, 8, 9]), ([1, 5, 8, 9, 10, 11], []), ([1, 5, 7, 8, 9, 10], []), ([1, 5, 8, 9, 10], []), ([1, 5, 8, 9, 10], []), ([4], [])] = some (x_sl16Score, r_sl16Score) := by kernel_rfl
def us_sl16Score := And.intro @u_sl16Score (And.intro @u_sl16Score_1 (And.intro @u_sl16Score_2 (And.intro @u_sl16Score_3 (And.intro @u_sl16Score_4 (And.intro @u_sl16Score_5 (And.intro @u_sl16Score_6 (And.intro @u_sl16Score_7 (And.intro @u_sl16Score_8 @u_sl16Score_9))))))))
def t_iScoreRows_1 : X := (.cond (.t 13) (.seq (.reg [4, 5] [.q 4 [] (.mv (.c (.int .i64 0))), .q 5 [] (.mv (.c (.bool false)))]) .ret) .skip)
theorem u_iScoreRows_1 (P : Program) (k : KT) (e : Env) (w : World) : vcK P t_iScoreRows_1 k e w = vcK P (.cond (.t 13) (.seq (.reg [4, 5] [.q 4 [] (.mv (.c (.int .i64 0))), .q 5 [] (.mv (.c (.bool false)))]) .ret) .skip) k e w := rfl
def t_iScoreRows_2 : X := (.seq (.reg [4, 5] [.q 14 [] (.mv (.t 0)), .q 15 [] (.mv (.t 1)), .e (some 16) [] (.call false 115 [(.t 14), (.t 15)]), .q 4 [] (.mv (.t 16)), .q 5 [] (.mv (.c (.bool true)))]) .ret)
theorem u_iScoreRows_2 (P : Program) (k : KT) (e : Env) (w : World) : vcK P t_iScoreRows_2 k e w = vcK P (.seq (.reg [4, 5] [.q 14 [] (.mv (.t 0)), .q 15 [] (.mv (.t 1)), .e (some 16) [] (.call false 115 [(.t 14), (.t 15)]), .q 4 [] (.mv (.t 16)), .q 5 [] (.mv (.c (.bool true)))]) .ret) k e w := rfl
def t_iScoreRows_3 : X := (.seq (.seq (.reg [0, 1, 13] [.q 6 [] (.mv (.t 0)), .e (some 7) [] (.call false 114 [(.t 6)]), .q 8 [] (.not (.t 7)), .q 9 [] (.mv (.t 8)), .q 10 [(9, false)] (.mv (.t 1)), .e (some 11) [(9, false)] (.call false 94 [(.t 10)]), .q 12 [(9, false)] (.not (.t 11)), .q 13 [] (.pick (.t 9) (.c (.bool true)) (.t 12))]) t_iScoreRows_1) t_iScoreRows_2)
theorem u_iScoreRows_3 (P : Program) (k : KT) (e : Env) (w : World) : vcK P t_iScoreRows_3 k e w = vcK P (.seq (.seq (.reg [0, 1, 13] [.q 6 [] (.mv (.t 0)), .e (some 7) [] (.call false 114 [(.t 6)]), .q 8 [] (.not (.t 7)), .q 9 [] (.mv (.t 8)), .q 10 [(9, false)] (.mv (.t 1)), .e (some 11) [(9, false)] (.call false 94 [(.t 10)]), .q 12 [(9, false)] (.not (.t 11)), .q 13 [] (.pick (.t 9) (.c (.bool true)) (.t 12))]) t_iScoreRows_1) t_iScoreRows_2) k e w := rfl
def x_iScoreRows : X := (.seq (.reg [0, 1] [.q 4 [] (.mv (.c (.int .i64 0))), .q 5 [] (.mv (.c (.bool false)))]) t_iScoreRows_3)
theorem u_iScoreRows (P : Program) (k : KT) (e : Env) (w : World) : vcK P x_iScoreRows k e w = vcK P (.seq (.reg [0, 1] [.q 4 [] (.mv (.c (.int .i64 0))), .q 5 [] (.mv (.c (.bool false)))]) t_iScoreRows_3) k e w := rfl
def r_iScoreRows : List XO := [(.mv (.t 4)), (.mv (.t 5))]
theorem c_iScoreRows : convF Try.prog [] Try.f41 [([0, 1], []), ([0, 1, 13], []), ([4, 5], []), ([4, 5], [])] = some (x_iScoreRows, r_iScoreRows) := by kernel_rfl
def us_iScoreRows := And.intro @u_iScoreRows (And.intro @u_iScoreRows_1 (And.intro @u_iScoreRows_2 @u_iScoreRows_3))
def t_sScoreRows_1 : X := (.cond (.t 13) (.seq (.reg [4, 5] [.q 4 [] (.mv (.c (.int .i64 0))), .q 5 [] (.mv (.c (.bool false)))]) .ret) .skip)
theorem u_sScoreRows_1 (P : Program) (k : KT) (e : Env) (w : World) : vcK P t_sScoreRows_1 k e w = vcK P (.cond (.t 13) (.seq (.reg [4, 5] [.q 4 [] (.mv (.c (.int .i64 0))), .q 5 [] (.mv (.c (.bool false)))]) .ret) .skip) k e w := rfl
def t_sScoreRows_2 : X := (.seq (.reg [4, 5] [.q 14 [] (.mv (.t 0)), .q 15 [] (.mv (.t 1)), .e (some 16) [] (.call false 112 [(.t 14), (.t 15)]), .q 4 [] (.mv (.t 16)), .q 5 [] (.mv (.c (.bool true)))]) .ret)
theorem u_sScoreRows_2 (P : Program) (k : KT) (e : Env) (w : World) : vcK P t_sScoreRows_2 k e w = vcK P (.seq (.reg [4, 5] [.q 14 [] (.mv (.t 0)), .q 15 [] (.mv (.t 1)), .e (some 16) [] (.call false 112 [(.t 14), (.t 15)]), .q 4 [] (.mv (.t 16)), .q 5 [] (.mv (.c (.bool true)))]) .ret) k e w := rfl
def t_sScoreRows_3 : X := (.seq (.seq (.reg [0, 1, 13] [.q 6 [] (.mv (.t 0)), .e (some 7) [] (.call false 111 [(.t 6)]), .q 8 [] (.not (.t 7)), .q 9 [] (.mv (.t 8)), .q 10 [(9, false)] (.mv (.t 1)), .e (some 11) [(9, false)] (.call false 92 [(.t 10)]), .q 12 [(9, false)] (.not (.t 11)), .q 13 [] (.pick (.t 9) (.c (.bool true)) (.t 12))]) t_sScoreRows_1) t_sScoreRows_2)
theorem u_sScoreRows_3 (P : Program) (k : KT) (e : Env) (w : World) : vcK P t_sScoreRows_3 k e w = vcK P (.seq (.seq (.reg [0, 1, 13] [.q 6 [] (.mv (.t 0)), .e (some 7) [] (.call false 111 [(.t 6)]), .q 8 [] (.not (.t 7)), .q 9 [] (.mv (.t 8)), .q 10 [(9, false)] (.mv (.t 1)), .e (some 11) [(9, false)] (.call false 92 [(.t 10)]), .q 12 [(9, false)] (.not (.t 11)), .q 13 [] (.pick (.t 9) (.c (.bool true)) (.t 12))]) t_sScoreRows_1) t_sScoreRows_2) k e w := rfl
def x_sScoreRows : X := (.seq (.reg [0, 1] [.q 4 [] (.mv (.c (.int .i64 0))), .q 5 [] (.mv (.c (.bool false)))]) t_sScoreRows_3)
theorem u_sScoreRows (P : Program) (k : KT) (e : Env) (w : World) : vcK P x_sScoreRows k e w = vcK P (.seq (.reg [0, 1] [.q 4 [] (.mv (.c (.int .i64 0))), .q 5 [] (.mv (.c (.bool false)))]) t_sScoreRows_3) k e w := rfl
def r_sScoreRows : List XO := [(.mv (.t 4)), (.mv (.t 5))]
theorem c_sScoreRows : convF Try.prog [] Try.f39 [([0, 1], []), ([0, 1, 13], []), ([4, 5], []), ([4, 5], [])] = some (x_sScoreRows, r_sScoreRows) := by kernel_rfl
def us_sScoreRows := And.intro @u_sScoreRows (And.intro @u_sScoreRows_1 (And.intro @u_sScoreRows_2 @u_sScoreRows_3))
def t_lFnExactScoreRows_1 : X := (.cond (.t 16) (.seq (.reg [4] [.q 4 [] (.mv (.c (.bool true)))]) .ret) .skip)
theorem u_lFnExactScoreRows_1 (P : Program) (k : KT) (e : Env) (w : World) : vcK P t_lFnExactScoreRows_1 k e w = vcK P (.cond (.t 16) (.seq (.reg [4] [.q 4 [] (.mv (.c (.bool true)))]) .ret) .skip) k e w := rfl
def t_lFnExactScoreRows_2 : X := (.cond (.t 21) (.seq (.reg [4] [.q 4 [] (.mv (.c (.bool true)))]) .ret) .skip)
theorem u_lFnExactScoreRows_2 (P : Program) (k : KT) (e : Env) (w : World) : vcK P t_lFnExactScoreRows_2 k e w = vcK P (.cond (.t 21) (.seq (.reg [4] [.q 4 [] (.mv (.c (.bool true)))]) .ret) .skip) k e w := rfl
def t_lFnExactScoreRows_3 : X := (.cond (.t 47) (.seq (.reg [4] [.q 4 [] (.mv (.c (.bool false)))]) .ret) .skip)
theorem u_lFnExactScoreRows_3 (P : Program) (k : KT) (e : Env) (w : World) : vcK P t_lFnExactScoreRows_3 k e w = vcK P (.cond (.t 47) (.seq (.reg [4] [.q 4 [] (.mv (.c (.bool false)))]) .ret) .skip) k e w := rfl
def t_lFnExactScoreRows_4 : X := (.cond (.t 52) (.seq (.reg [4] [.q 4 [] (.mv (.c (.bool false)))]) .ret) .skip)
theorem u_lFnExactScoreRows_4 (P : Program) (k : KT) (e : Env) (w : World) : vcK P t_lFnExactScoreRows_4 k e w = vcK P (.cond (.t 52) (.seq (.reg [4] [.q 4 [] (.mv (.c (.bool false)))]) .ret) .skip) k e w := rfl
def t_lFnExactScoreRows_5 : X := (.cond (.t 57) (.seq (.reg [4] [.q 4 [] (.mv (.c (.bool false)))]) .ret) .skip)
theorem u_lFnExactScoreRows_5 (P : Program) (k : KT) (e : Env) (w : World) : vcK P t_lFnExactScoreRows_5 k e w = vcK P (.cond (.t 57) (.seq (.reg [4] [.q 4 [] (.mv (.c (.bool false)))]) .ret) .skip) k e w := rfl
def t_lFnExactScoreRows_6 : X := (.seq (.reg [4] [.q 4 [] (.mv (.c (.bool true)))]) .ret)
theorem u_lFnExactScoreRows_6 (P : Program) (k : KT) (e : Env) (w : World) : vcK P t_lFnExactScoreRows_6 k e w = vcK P (.seq (.reg [4] [.q 4 [] (.mv (.c (.bool true)))]) .ret) k e w := rfl
def t_lFnExactScoreRows_7 : X := (.seq (.seq (.reg [57] [.q 53 [] (.mv (.t 9)), .q 54 [] (.mv (.t 1)), .e (some 55) [] (.call false 22 [(.t 54)]), .e (some 56) [] (.call false 17 [(.t 53), (.t 55)]), .q 57 [] (.not (.t 56))]) t_lFnExactScoreRows_5) t_lFnExactScoreRows_6)
theorem u_lFnExactScoreRows_7 (P : Program) (k : KT) (e : Env) (w : World) : vcK P t_lFnExactScoreRows_7 k e w = vcK P (.seq (.seq (.reg [57] [.q 53 [] (.mv (.t 9)), .q 54 [] (.mv (.t 1)), .e (some 55) [] (.call false 22 [(.t 54)]), .e (some 56) [] (.call false 17 [(.t 53), (.t 55)]), .q 57 [] (.not (.t 56))]) t_lFnExactScoreRows_5) t_lFnExactScoreRows_6) k e w := rfl
def t_lFnExactScoreRows_8 : X := (.seq (.seq (.reg [1, 9, 52] [.q 48 [] (.mv (.t 8)), .q 49 [] (.mv (.t 0)), .e (some 50) [] (.call false 40 [(.t 49)]), .e (some 51) [] (.call false 42 [(.t 48), (.t 50)]), .q 52 [] (.not (.t 51))]) t_lFnExactScoreRows_4) t_lFnExactScoreRows_7)
theorem u_lFnExactScoreRows_8 (P : Program) (k : KT) (e : Env) (w : World) : vcK P t_lFnExactScoreRows_8 k e w = vcK P (.seq (.seq (.reg [1, 9, 52] [.q 48 [] (.mv (.t 8)), .q 49 [] (.mv (.t 0)), .e (some 50) [] (.call false 40 [(.t 49)]), .e (some 51) [] (.call false 42 [(.t 48), (.t 50)]), .q 52 [] (.not (.t 51))]) t_lFnExactScoreRows_4) t_lFnExactScoreRows_7) k e w := rfl
def t_lFnExactScoreRows_9 : X := (.seq (.seq (.reg [0, 1, 8, 9, 47] [.q 40 [] (.mv (.t 10)), .q 41 [] (.mv (.t 6)), .q 42 [] (.bin .neq (.t 40) (.t 41)), .q 43 [] (.mv (.t 42)), .q 44 [(43, false)] (.mv (.t 11)), .q 45 [(43, false)] (.mv (.t 7)), .q 46 [(43, false)] (.beq true (.t 44) (.t 45)), .q 47 [] (.pick (.t 43) (.c (.bool true)) (.t 46))]) t_lFnExactScoreRows_3) t_lFnExactScoreRows_8)
theorem u_lFnExactScoreRows_9 (P : Program) (k : KT) (e : Env) (w : World) : vcK P t_lFnExactScoreRows_9 k e w = vcK P (.seq (.seq (.reg [0, 1, 8, 9, 47] [.q 40 [] (.mv (.t 10)), .q 41 [] (.mv (.t 6)), .q 42 [] (.bin .neq (.t 40) (.t 41)), .q 43 [] (.mv (.t 42)), .q 44 [(43, false)] (.mv (.t 11)), .q 45 [(43, false)] (.mv (.t 7)), .q 46 [(43, false)] (.beq true (.t 44) (.t 45)), .q 47 [] (.pick (.t 43) (.c (.bool true)) (.t 46))]) t_lFnExactScoreRows_3) t_lFnExactScoreRows_8) k e w := rfl
def t_lFnExactScoreRows_10 : X := (.seq (.reg [0, 1, 6, 7, 8, 9, 10, 11] [.q 35 [] (.mv (.t 8)), .q 36 [] (.mv (.t 9)), .e (some 37) [] (.call false 41 [(.t 35), (.t 36)]), .q 34 [] (.mv (.t 37)), .q 38 [] (.ext 0 (.t 34)), .q 39 [] (.ext 1 (.t 34)), .q 10 [] (.mv (.t 38)), .q 11 [] (.mv (.t 39))]) t_lFnExactScoreRows_9)
theorem u_lFnExactScoreRows_10 (P : Program) (k : KT) (e : Env) (w : World) : vcK P t_lFnExactScoreRows_10 k e w = vcK P (.seq (.reg [0, 1, 6, 7, 8, 9, 10, 11] [.q 35 [] (.mv (.t 8)), .q 36 [] (.mv (.t 9)), .e (some 37) [] (.call false 41 [(.t 35), (.t 36)]), .q 34 [] (.mv (.t 37)), .q 38 [] (.ext 0 (.t 34)), .q 39 [] (.ext 1 (.t 34)), .q 10 [] (.mv (.t 38)), .q 11 [] (.mv (.t 39))]) t_lFnExactScoreRows_9) k e w := rfl
def t_lFnExactScoreRows_11 : X := (.seq (.reg [0, 1, 6, 7, 8, 9] [.q 32 [] (.mv (.t 1)), .e (some 33) [] (.call false 22 [(.t 32)]), .q 9 [] (.mv (.t 33))]) t_lFnExactScoreRows_10)
theorem u_lFnExactScoreRows_11 (P : Program) (k : KT) (e : Env) (w : World) : vcK P t_lFnExactScoreRows_11 k e w = vcK P (.seq (.reg [0, 1, 6, 7, 8, 9] [.q 32 [] (.mv (.t 1)), .e (some 33) [] (.call false 22 [(.t 32)]), .q 9 [] (.mv (.t 33))]) t_lFnExactScoreRows_10) k e w := rfl
def t_lFnExactScoreRows_12 : X := (.seq (.reg [0, 1, 6, 7, 8] [.q 30 [] (.mv (.t 0)), .e (some 31) [] (.call false 40 [(.t 30)]), .q 8 [] (.mv (.t 31))]) t_lFnExactScoreRows_11)
theorem u_lFnExactScoreRows_12 (P : Program) (k : KT) (e : Env) (w : World) : vcK P t_lFnExactScoreRows_12 k e w = vcK P (.seq (.reg [0, 1, 6, 7, 8] [.q 30 [] (.mv (.t 0)), .e (some 31) [] (.call false 40 [(.t 30)]), .q 8 [] (.mv (.t 31))]) t_lFnExactScoreRows_11) k e w := rfl
def t_lFnExactScoreRows_13 : X := (.seq (.reg [0, 1, 6, 7] [.q 23 [] (.mv (.t 0)), .e (some 24) [] (.call false 40 [(.t 23)]), .q 25 [] (.mv (.t 1)), .e (some 26) [] (.call false 22 [(.t 25)]), .e (some 27) [] (.call false 39 [(.t 24), (.t 26)]), .q 22 [] (.mv (.t 27)), .q 28 [] (.ext 0 (.t 22)), .q 29 [] (.ext 1 (.t 22)), .q 6 [] (.mv (.t 28)), .q 7 [] (.mv (.t 29))]) t_lFnExactScoreRows_12)
theorem u_lFnExactScoreRows_13 (P : Program) (k : KT) (e : Env) (w : World) : vcK P t_lFnExactScoreRows_13 k e w = vcK P (.seq (.reg [0, 1, 6, 7] [.q 23 [] (.mv (.t 0)), .e (some 24) [] (.call false 40 [(.t 23)]), .q 25 [] (.mv (.t 1)), .e (some 26) [] (.call false 22 [(.t 25)]), .e (some 27) [] (.call false 39 [(.t 24), (.t 26)]), .q 22 [] (.mv (.t 27)), .q 28 [] (.ext 0 (.t 22)), .q 29 [] (.ext 1 (.t 22)), .q 6 [] (.mv (.t 28)), .q 7 [] (.mv (.t 29))]) t_lFnExactScoreRows_12) k e w := rfl
def t_lFnExactScoreRows_14 : X := (.seq (.seq (.reg [0, 1, 21] [.q 20 [] (.mv (.t 5)), .q 21 [] (.bin .lss (.t 20) (.c (.int .i64 0)))]) t_lFnExactScoreRows_2) t_lFnExactScoreRows_13)
theorem u_lFnExactScoreRows_14 (P : Program) (k : KT) (e : Env) (w : World) : vcK P t_lFnExactScoreRows_14 k e w = vcK P (.seq (.seq (.reg [0, 1, 21] [.q 20 [] (.mv (.t 5)), .q 21 [] (.bin .lss (.t 20) (.c (.int .i64 0)))]) t_lFnExactScoreRows_2) t_lFnExactScoreRows_13) k e w := rfl
def t_lFnExactScoreRows_15 : X := (.seq (.reg [0, 1, 5] [.q 17 [] (.mv (.t 1)), .q 18 [] (.mv (.t 5)), .e (some 19) [] (.call false 20 [(.t 17), (.t 18)]), .q 5 [] (.mv (.t 19))]) t_lFnExactScoreRows_14)
theorem u_lFnExactScoreRows_15 (P : Program) (k : KT) (e : Env) (w : World) : vcK P t_lFnExactScoreRows_15 k e w = vcK P (.seq (.reg [0, 1, 5] [.q 17 [] (.mv (.t 1)), .q 18 [] (.mv (.t 5)), .e (some 19) [] (.call false 20 [(.t 17), (.t 18)]), .q 5 [] (.mv (.t 19))]) t_lFnExactScoreRows_14) k e w := rfl
def t_lFnExactScoreRows_16 : X := (.seq (.seq (.reg [0, 1, 5, 16] [.q 15 [] (.mv (.t 5)), .q 16 [] (.bin .lss (.t 15) (.c (.int .i64 0)))]) t_lFnExactScoreRows_1) t_lFnExactScoreRows_15)
theorem u_lFnExactScoreRows_16 (P : Program) (k : KT) (e : Env) (w : World) : vcK P t_lFnExactScoreRows_16 k e w = vcK P (.seq (.seq (.reg [0, 1, 5, 16] [.q 15 [] (.mv (.t 5)), .q 16 [] (.bin .lss (.t 15) (.c (.int .i64 0)))]) t_lFnExactScoreRows_1) t_lFnExactScoreRows_15) k e w := rfl
def t_lFnExactScoreRows_17 : X := (.seq (.reg [0, 1, 5] [.q 12 [] (.mv (.t 0)), .q 13 [] (.mv (.t 5)), .e (some 14) [] (.call false 38 [(.t 12), (.t 13)]), .q 5 [] (.mv (.t 14))]) t_lFnExactScoreRows_16)
theorem u_lFnExactScoreRows_17 (P : Program) (k : KT) (e : Env) (w : World) : vcK P t_lFnExactScoreRows_17 k e w = vcK P (.seq (.reg [0, 1, 5] [.q 12 [] (.mv (.t 0)), .q 13 [] (.mv (.t 5)), .e (some 14) [] (.call false 38 [(.t 12), (.t 13)]), .q 5 [] (.mv (.t 14))]) t_lFnExactScoreRows_16) k e w := rfl
def t_lFnExactScoreRows_18 : X := (.seq (.reg [0, 1, 5] [.q 5 [] (.mv (.c (.int .i64 1048576)))]) t_lFnExactScoreRows_17)
theorem u_lFnExactScoreRows_18 (P : Program) (k : KT) (e : Env) (w : World) : vcK P t_lFnExactScoreRows_18 k e w = vcK P (.seq (.reg [0, 1, 5] [.q 5 [] (.mv (.c (.int .i64 1048576)))]) t_lFnExactScoreRows_17) k e w := rfl
def x_lFnExactScoreRows : X := (.seq (.reg [0, 1] [.q 4 [] (.mv (.c (.bool false)))]) t_lFnExactScoreRows_18)
theorem u_lFnExactScoreRows (P : Program) (k : KT) (e : Env) (w : World) : vcK P x_lFnExactScoreRows k e w = vcK P (.seq (.reg [0, 1] [.q 4 [] (.mv (.c (.bool false)))]) t_lFnExactScoreRows_18) k e w := rfl
def r_lFnExactScoreRows : List XO := [(.mv (.t 4))]
theorem c_lFnExactScoreRows : convF Try.prog [] Try.f6 [([0, 1], []), ([0, 1, 5], []), ([0, 1, 5], []), ([0, 1, 5, 16], []), ([4], []), ([0, 1, 5], []), ([0, 1, 21], []), ([4], []), ([0, 1, 6, 7], []), ([0, 1, 6, 7, 8], []), ([0, 1, 6, 7, 8, 9], []), ([0, 1, 6, 7, 8, 9, 10, 11], []), ([0, 1, 8, 9, 47], []), ([4], []), ([1, 9, 52], []), ([4], []), ([57], []), ([4], []), ([4], [])] = some (x_lFnExactScoreRows, r_lFnExactScoreRows) := by kernel_rfl
def us_lFnExactScoreRows := And.intro @u_lFnExactScoreRows (And.intro @u_lFnExactScoreRows_1 (And.intro @u_lFnExactScoreRows_2 (And.intro @u_lFnExactScoreRows_3 (And.intro @u_lFnExactScoreRows_4 (And.intro @u_lFnExactScoreRows_5 (And.intro @u_lFnExactScoreRows_6 (And.intro @u_lFnExactScoreRows_7 (And.intro @u_lFnExactScoreRows_8 (And.intro @u_lFnExactScoreRows_9 (And.intro @u_lFnExactScoreRows_10 (And.intro @u_lFnExactScoreRows_11 (And.intro @u_lFnExactScoreRows_12 (And.intro @u_lFnExactScoreRows_13 (And.intro @u_lFnExactScoreRows_14 (And.intro @u_lFnExactScoreRows_15 (And.intro @u_lFnExactScoreRows_16 (And.intro @u_lFnExactScoreRows_17 @u_lFnExactScoreRows_18)))))))))))))))))

/-- The score. -/
def scoreL (ks : List LK) (l : List (List UInt8)) : Int := (ks.map fun x => x.wt * (countL x.pat l : Int)).sum
theorem scoreL_succ (ks : List LK) (l : List (List UInt8)) (k : Nat) (h : k < ks.length) : scoreL (ks.take (k + 1)) l = scoreL (ks.take k) l + (ks.getD k ⟨[], 0⟩).wt * (countL (ks.getD k ⟨[], 0⟩).pat l : Int) := by
  unfold scoreL
  rw [List.take_add_one, List.getElem?_eq_getElem h, List.map_append, List.sum_append, List.getD_eq_getElem?_getD, List.getElem?_eq_getElem h]
  simp
theorem prod_le (a c : Int) (ha : -100 ≤ a ∧ a ≤ 100) (hc : 0 ≤ c ∧ c ≤ 800) : -80000 ≤ a * c ∧ a * c ≤ 80000 := by
  constructor
  · have h1 := Int.mul_le_mul_of_nonneg_right ha.1 hc.1
    omega
  · have h1 := Int.mul_le_mul_of_nonneg_right ha.2 hc.1
    omega
theorem iscoreOf_ok (v u : Value) (ks : List LK) (l : List (List UInt8)) (hk : GoodKs ks) (hl : l.length ≤ 800) (w : World) (h : Sq fK 2 w v ks) (h' : Sq fS 1 w u l) : Fn 115 [v, u] w (fun r _ => r = .int .i64 (scoreL ks l)) := by
  (refine callsV_of mix Try.func115 c_iscoreOf ?_; simp only [↓vsd, vsn, gW, qd, qv, ev, pick, argE, List.map_cons, List.map_nil, Option.map_some, Option.map_none, zipE, List.cons_append, List.nil_append, ne_eq, eq_self, forall_const, implies_true, if_true, if_false, reduceIte, List.cons.injEq, reduceCtorEq, Nat.reduceEqDiff, List.length_nil, List.length_cons, Nat.reduceAdd, Nat.reduceLT, ↓us_iscoreOf, r_iscoreOf])
  simp only [↓vsd, vsn, gW, qd, qv, ev, pick, argE, List.map_cons, List.map_nil, Option.map_some, Option.map_none, zipE, List.cons_append, List.nil_append, ne_eq, eq_self, forall_const, implies_true, if_true, if_false, reduceIte, List.cons.injEq, reduceCtorEq, Nat.reduceEqDiff, List.length_nil, List.length_cons, Nat.reduceAdd, Nat.reduceLT, ↓us_iscoreOf, r_iscoreOf, h.facts]
  refine m_upto ks.length (fun k vs w' => vs = [.int .i64 (scoreL (ks.take k) l), .int .i64 k] ∧ -80000 * (k : Int) ≤ scoreL (ks.take k) l ∧ scoreL (ks.take k) l ≤ 80000 * (k : Int) ∧ Ext w w') ⟨rfl, by simp [scoreL], by simp [scoreL], Ext.refl _⟩ ?_
  rintro k vs w1 hkk ⟨rfl, hlo, hhi, hx⟩
  have hq := h.ext hx
  have hlen := hk.2
  by_cases hlt : k < ks.length
  · have hltI : (k : Int) < ks.length := by omega
    have hltJ : ¬ (ks.length : Int) ≤ k := by omega
    have hs := scoreL_succ ks l k hlt
    have hw := (hk.1 _ (getD_mem ⟨[], 0⟩ hlt)).2
    have hc := countL_le (ks.getD k ⟨[], 0⟩).pat l
    have hpr := prod_le _ (countL (ks.getD k ⟨[], 0⟩).pat l) hw (by omega)
    simp only [↓vsd, vsn, gW, qd, qv, ev, pick, argE, List.map_cons, List.map_nil, Option.map_some, Option.map_none, zipE, List.cons_append, List.nil_append, ne_eq, eq_self, forall_const, implies_true, if_true, if_false, reduceIte, List.cons.injEq, reduceCtorEq, Nat.reduceEqDiff, List.length_nil, List.length_cons, Nat.reduceAdd, Nat.reduceLT, ↓us_iscoreOf, r_iscoreOf, hq.facts, hq.ata ⟨[], 0⟩ hlt, hltI, hltJ]
    refine ⟨by omega, m_al ?_⟩
    rintro b w2 hb hblk hx2 hs2
    simp only [↓vsd, vsn, gW, qd, qv, ev, pick, argE, List.map_cons, List.map_nil, Option.map_some, Option.map_none, zipE, List.cons_append, List.nil_append, ne_eq, eq_self, forall_const, implies_true, if_true, if_false, reduceIte, List.cons.injEq, reduceCtorEq, Nat.reduceEqDiff, List.length_nil, List.length_cons, Nat.reduceAdd, Nat.reduceLT, ↓us_iscoreOf, r_iscoreOf]
    refine m_st hblk rfl (Nat.le_refl 2) (fK_one _) ?_
    rintro w3 hblk3 hu3
    have h3 : Blk w3 b (fK (ks.getD k ⟨[], 0⟩)) 99 := hblk3
    have hx3 : Ext w w3 := hu3.below (hx.trans hx2) (by have := hx.size; omega)
    simp only [↓vsd, vsn, gW, qd, qv, ev, pick, argE, List.map_cons, List.map_nil, Option.map_some, Option.map_none, zipE, List.cons_append, List.nil_append, ne_eq, eq_self, forall_const, implies_true, if_true, if_false, reduceIte, List.cons.injEq, reduceCtorEq, Nat.reduceEqDiff, List.length_nil, List.length_cons, Nat.reduceAdd, Nat.reduceLT, ↓us_iscoreOf, r_iscoreOf, h3.facts, fKg]
    refine m_call (icountFits_ok _ u l (by omega) _ (h'.ext (dr hx3))) ?_
    rintro _ w4 hx4 rfl
    have hx4 := ud hx4
    have h4 := h3.ext hx4
    simp only [↓vsd, vsn, gW, qd, qv, ev, pick, argE, List.map_cons, List.map_nil, Option.map_some, Option.map_none, zipE, List.cons_append, List.nil_append, ne_eq, eq_self, forall_const, implies_true, if_true, if_false, reduceIte, List.cons.injEq, reduceCtorEq, Nat.reduceEqDiff, List.length_nil, List.length_cons, Nat.reduceAdd, Nat.reduceLT, ↓us_iscoreOf, r_iscoreOf, h4.facts, fKg]
    exact ⟨inR_i64 (by omega), inR_i64 (by omega), inR_i64 (by omega), UpTo.next hlt ⟨by rw [hs]; rfl, by rw [hs]; omega, by rw [hs]; omega, hx3.trans hx4⟩⟩
  · obtain rfl : k = ks.length := by omega
    have hltI : ¬ (ks.length : Int) < ks.length := by omega
    simp only [↓vsd, vsn, gW, qd, qv, ev, pick, argE, List.map_cons, List.map_nil, Option.map_some, Option.map_none, zipE, List.cons_append, List.nil_append, ne_eq, eq_self, forall_const, implies_true, if_true, if_false, reduceIte, List.cons.injEq, reduceCtorEq, Nat.reduceEqDiff, List.length_nil, List.length_cons, Nat.reduceAdd, Nat.reduceLT, ↓us_iscoreOf, r_iscoreOf, hq.facts, hltI]
    exact ⟨hx, by rw [List.take_length]⟩
theorem sl16Score_ok (v u : Value) (ks : List LK) (l : List (List UInt8)) (hk : GoodKs ks) (hl : l.length ≤ 800) (w : World) (h : Sq fK 2 w v ks) (h' : Sq fS 1 w u l) : Fn 112 [v, u] w (fun r _ => r = .int .i64 (scoreL ks l)) := by
  (refine callsV_of mix Try.func112 c_sl16Score ?_; simp only [↓vsd, vsn, gW, qd, qv, ev, pick, argE, List.map_cons, List.map_nil, Option.map_some, Option.map_none, zipE, List.cons_append, List.nil_append, ne_eq, eq_self, forall_const, implies_true, if_true, if_false, reduceIte, List.cons.injEq, reduceCtorEq, Nat.reduceEqDiff, List.length_nil, List.length_cons, Nat.reduceAdd, Nat.reduceLT, ↓us_sl16Score, r_sl16Score])
  simp only [↓vsd, vsn, gW, qd, qv, ev, pick, argE, List.map_cons, List.map_nil, Option.map_some, Option.map_none, zipE, List.cons_append, List.nil_append, ne_eq, eq_self, forall_const, implies_true, if_true, if_false, reduceIte, List.cons.injEq, reduceCtorEq, Nat.reduceEqDiff, List.length_nil, List.length_cons, Nat.reduceAdd, Nat.reduceLT, ↓us_sl16Score, r_sl16Score, h.facts]
  refine m_upto ks.length (fun k vs w' => vs = [.int .i64 (scoreL (ks.take k) l), .int .i64 k] ∧ -80000 * (k : Int) ≤ scoreL (ks.take k) l ∧ scoreL (ks.take k) l ≤ 80000 * (k : Int) ∧ Ext w w') ⟨rfl, by simp [scoreL], by simp [scoreL], Ext.refl _⟩ ?_
  rintro k vs w1 hkk ⟨rfl, hlo, hhi, hx⟩
  have hq := h.ext hx
  have hlen := hk.2
  by_cases hlt : k < ks.length
  · have hltI : (k : Int) < ks.length := by omega
    have hltJ : ¬ (ks.length : Int) ≤ k := by omega
    have hs := scoreL_succ ks l k hlt
    have hw := (hk.1 _ (getD_mem ⟨[], 0⟩ hlt)).2
    have hc := countL_le (ks.getD k ⟨[], 0⟩).pat l
    have hpr := prod_le _ (countL (ks.getD k ⟨[], 0⟩).pat l) hw (by omega)
    simp only [↓vsd, vsn, gW, qd, qv, ev, pick, argE, List.map_cons, List.map_nil, Option.map_some, Option.map_none, zipE, List.cons_append, List.nil_append, ne_eq, eq_self, forall_const, implies_true, if_true, if_false, reduceIte, List.cons.injEq, reduceCtorEq, Nat.reduceEqDiff, List.length_nil, List.length_cons, Nat.reduceAdd, Nat.reduceLT, ↓us_sl16Score, r_sl16Score, hq.facts, hq.ata ⟨[], 0⟩ hlt, hltI, hltJ]
    refine ⟨by omega, m_al ?_⟩
    rintro b w2 hb hblk hx2 hs2
    simp only [↓vsd, vsn, gW, qd, qv, ev, pick, argE, List.map_cons, List.map_nil, Option.map_some, Option.map_none, zipE, List.cons_append, List.nil_append, ne_eq, eq_self, forall_const, implies_true, if_true, if_false, reduceIte, List.cons.injEq, reduceCtorEq, Nat.reduceEqDiff, List.length_nil, List.length_cons, Nat.reduceAdd, Nat.reduceLT, ↓us_sl16Score, r_sl16Score]
    refine m_st hblk rfl (Nat.le_refl 2) (fK_one _) ?_
    rintro w3 hblk3 hu3
    have h3 : Blk w3 b (fK (ks.getD k ⟨[], 0⟩)) 99 := hblk3
    have hx3 : Ext w w3 := hu3.below (hx.trans hx2) (by have := hx.size; omega)
    simp only [↓vsd, vsn, gW, qd, qv, ev, pick, argE, List.map_cons, List.map_nil, Option.map_some, Option.map_none, zipE, List.cons_append, List.nil_append, ne_eq, eq_self, forall_const, implies_true, if_true, if_false, reduceIte, List.cons.injEq, reduceCtorEq, Nat.reduceEqDiff, List.length_nil, List.length_cons, Nat.reduceAdd, Nat.reduceLT, ↓us_sl16Score, r_sl16Score, h3.facts, fKg]
    refine m_call (sl16Count_ok _ u l (by omega) _ (h'.ext (dr hx3))) ?_
    rintro _ w4 hx4 rfl
    have hx4 := ud hx4
    have h4 := h3.ext hx4
    simp only [↓vsd, vsn, gW, qd, qv, ev, pick, argE, List.map_cons, List.map_nil, Option.map_some, Option.map_none, zipE, List.cons_append, List.nil_append, ne_eq, eq_self, forall_const, implies_true, if_true, if_false, reduceIte, List.cons.injEq, reduceCtorEq, Nat.reduceEqDiff, List.length_nil, List.length_cons, Nat.reduceAdd, Nat.reduceLT, ↓us_sl16Score, r_sl16Score, h4.facts, fKg]
    exact ⟨inR_i64 (by omega), inR_i64 (by omega), inR_i64 (by omega), UpTo.next hlt ⟨by rw [hs]; rfl, by rw [hs]; omega, by rw [hs]; omega, hx3.trans hx4⟩⟩
  · obtain rfl : k = ks.length := by omega
    have hltI : ¬ (ks.length : Int) < ks.length := by omega
    simp only [↓vsd, vsn, gW, qd, qv, ev, pick, argE, List.map_cons, List.map_nil, Option.map_some, Option.map_none, zipE, List.cons_append, List.nil_append, ne_eq, eq_self, forall_const, implies_true, if_true, if_false, reduceIte, List.cons.injEq, reduceCtorEq, Nat.reduceEqDiff, List.length_nil, List.length_cons, Nat.reduceAdd, Nat.reduceLT, ↓us_sl16Score, r_sl16Score, hq.facts, hltI]
    exact ⟨hx, by rw [List.take_length]⟩
def scoreV (ks : List LK) (l : List (List UInt8)) : Value := if GoodKs ks ∧ IsRows l then .tuple ⟨[.int .i64 (scoreL ks l), .bool true]⟩ else .tuple ⟨[.int .i64 0, .bool false]⟩
theorem iScoreRows_ok (v u : Value) (ks : List LK) (l : List (List UInt8)) (hs : ∀ x ∈ ks, x.pat.length ≤ 1048576) (hks : ks.length ≤ 1048576) (hl : l.length ≤ 1000000000) (w : World) (h : Sq fK 2 w v ks) (h' : Sq fS 1 w u l) : Fn 41 [v, u] w (fun r _ => r = scoreV ks l) := by
  (refine callsV_of mix Try.func41 c_iScoreRows ?_; simp only [↓vsd, vsn, gW, qd, qv, ev, pick, argE, List.map_cons, List.map_nil, Option.map_some, Option.map_none, zipE, List.cons_append, List.nil_append, ne_eq, eq_self, forall_const, implies_true, if_true, if_false, reduceIte, List.cons.injEq, reduceCtorEq, Nat.reduceEqDiff, List.length_nil, List.length_cons, Nat.reduceAdd, Nat.reduceLT, ↓us_iScoreRows, r_iScoreRows])
  refine m_call (iGoodLiked_ok v ks hs hks _ h) ?_
  rintro _ w1 hx1 rfl
  simp only [↓vsd, vsn, gW, qd, qv, ev, pick, argE, List.map_cons, List.map_nil, Option.map_some, Option.map_none, zipE, List.cons_append, List.nil_append, ne_eq, eq_self, forall_const, implies_true, if_true, if_false, reduceIte, List.cons.injEq, reduceCtorEq, Nat.reduceEqDiff, List.length_nil, List.length_cons, Nat.reduceAdd, Nat.reduceLT, ↓us_iScoreRows, r_iScoreRows]
  refine ⟨fun h1 => m_call (iGoodRows_ok u l hl _ (h'.ext hx1)) ?_, fun h1 => ⟨hx1, by simp [scoreV, h1]⟩⟩
  rintro _ w2 hx2 rfl
  simp only [↓vsd, vsn, gW, qd, qv, ev, pick, argE, List.map_cons, List.map_nil, Option.map_some, Option.map_none, zipE, List.cons_append, List.nil_append, ne_eq, eq_self, forall_const, implies_true, if_true, if_false, reduceIte, List.cons.injEq, reduceCtorEq, Nat.reduceEqDiff, List.length_nil, List.length_cons, Nat.reduceAdd, Nat.reduceLT, ↓us_iScoreRows, r_iScoreRows]
  refine ⟨fun h2 => ⟨hx1.trans hx2, ?_⟩, fun h2 => m_call (iscoreOf_ok v u ks l h1 h2.2.2 _ (h.ext (hx1.trans hx2)) (h'.ext (hx1.trans hx2))) ?_⟩
  · rw [scoreV, if_neg (by simpa [h1] using h2)]
  rintro _ w3 hx3 rfl
  simp only [↓vsd, vsn, gW, qd, qv, ev, pick, argE, List.map_cons, List.map_nil, Option.map_some, Option.map_none, zipE, List.cons_append, List.nil_append, ne_eq, eq_self, forall_const, implies_true, if_true, if_false, reduceIte, List.cons.injEq, reduceCtorEq, Nat.reduceEqDiff, List.length_nil, List.length_cons, Nat.reduceAdd, Nat.reduceLT, ↓us_iScoreRows, r_iScoreRows]
  exact ⟨(hx1.trans hx2).trans hx3, by rw [scoreV, if_pos (by simpa using h2)]⟩
theorem sScoreRows_ok (v u : Value) (ks : List LK) (l : List (List UInt8)) (hs : ∀ x ∈ ks, x.pat.length ≤ 1048576) (hks : ks.length ≤ 1048576) (hl : l.length ≤ 1000000000) (w : World) (h : Sq fK 2 w v ks) (h' : Sq fS 1 w u l) : Fn 39 [v, u] w (fun r _ => r = scoreV ks l) := by
  (refine callsV_of mix Try.func39 c_sScoreRows ?_; simp only [↓vsd, vsn, gW, qd, qv, ev, pick, argE, List.map_cons, List.map_nil, Option.map_some, Option.map_none, zipE, List.cons_append, List.nil_append, ne_eq, eq_self, forall_const, implies_true, if_true, if_false, reduceIte, List.cons.injEq, reduceCtorEq, Nat.reduceEqDiff, List.length_nil, List.length_cons, Nat.reduceAdd, Nat.reduceLT, ↓us_sScoreRows, r_sScoreRows])
  refine m_call (sl16Liked_ok v ks hs hks _ h) ?_
  rintro _ w1 hx1 rfl
  simp only [↓vsd, vsn, gW, qd, qv, ev, pick, argE, List.map_cons, List.map_nil, Option.map_some, Option.map_none, zipE, List.cons_append, List.nil_append, ne_eq, eq_self, forall_const, implies_true, if_true, if_false, reduceIte, List.cons.injEq, reduceCtorEq, Nat.reduceEqDiff, List.length_nil, List.length_cons, Nat.reduceAdd, Nat.reduceLT, ↓us_sScoreRows, r_sScoreRows]
  refine ⟨fun h1 => m_call (sl6Rows_ok u l hl _ (h'.ext hx1)) ?_, fun h1 => ⟨hx1, by simp [scoreV, h1]⟩⟩
  rintro _ w2 hx2 rfl
  simp only [↓vsd, vsn, gW, qd, qv, ev, pick, argE, List.map_cons, List.map_nil, Option.map_some, Option.map_none, zipE, List.cons_append, List.nil_append, ne_eq, eq_self, forall_const, implies_true, if_true, if_false, reduceIte, List.cons.injEq, reduceCtorEq, Nat.reduceEqDiff, List.length_nil, List.length_cons, Nat.reduceAdd, Nat.reduceLT, ↓us_sScoreRows, r_sScoreRows]
  refine ⟨fun h2 => ⟨hx1.trans hx2, ?_⟩, fun h2 => m_call (sl16Score_ok v u ks l h1 h2.2.2 _ (h.ext (hx1.trans hx2)) (h'.ext (hx1.trans hx2))) ?_⟩
  · rw [scoreV, if_neg (by simpa [h1] using h2)]
  rintro _ w3 hx3 rfl
  simp only [↓vsd, vsn, gW, qd, qv, ev, pick, argE, List.map_cons, List.map_nil, Option.map_some, Option.map_none, zipE, List.cons_append, List.nil_append, ne_eq, eq_self, forall_const, implies_true, if_true, if_false, reduceIte, List.cons.injEq, reduceCtorEq, Nat.reduceEqDiff, List.length_nil, List.length_cons, Nat.reduceAdd, Nat.reduceLT, ↓us_sScoreRows, r_sScoreRows]
  exact ⟨(hx1.trans hx2).trans hx3, by rw [scoreV, if_pos (by simpa using h2)]⟩
theorem lFnExactScoreRows_ok (v u : Value) (ks : List LK) (l : List (List UInt8)) (hl : ks.length ≤ 9223372036854775807) (hs : ∀ x ∈ ks, x.pat.length ≤ 9223372036854775807) (hl' : l.length ≤ 9223372036854775807) (hs' : ∀ x ∈ l, x.length ≤ 9223372036854775807)
    (w : World) (h : Sq fK 2 w v ks) (h' : Sq fS 1 w u l) : Fn 6 [v, u] w (fun v _ => v = .bool true) := by
  (refine callsV_of mix Try.func6 c_lFnExactScoreRows ?_; simp only [↓vsd, vsn, gW, qd, qv, ev, pick, argE, List.map_cons, List.map_nil, Option.map_some, Option.map_none, zipE, List.cons_append, List.nil_append, ne_eq, eq_self, forall_const, implies_true, if_true, if_false, reduceIte, List.cons.injEq, reduceCtorEq, Nat.reduceEqDiff, List.length_nil, List.length_cons, Nat.reduceAdd, Nat.reduceLT, ↓us_lFnExactScoreRows, r_lFnExactScoreRows])
  refine m_call (lszLikedS_ok v ks hl hs _ h) ?_
  rintro _ w1 hx1 ⟨m, rfl, hm1, hm⟩
  simp only [↓vsd, vsn, gW, qd, qv, ev, pick, argE, List.map_cons, List.map_nil, Option.map_some, Option.map_none, zipE, List.cons_append, List.nil_append, ne_eq, eq_self, forall_const, implies_true, if_true, if_false, reduceIte, List.cons.injEq, reduceCtorEq, Nat.reduceEqDiff, List.length_nil, List.length_cons, Nat.reduceAdd, Nat.reduceLT, ↓us_lFnExactScoreRows, r_lFnExactScoreRows]
  refine ⟨fun _ => hx1, fun h0 => ?_⟩
  obtain ⟨hl, hs⟩ := hm h0
  refine m_call (lszStringS_ok u l m ⟨h0, hm1⟩ hl' hs' _ (h'.ext hx1)) ?_
  rintro _ w2 hx2 ⟨m', rfl, _, hm'⟩
  simp only [↓vsd, vsn, gW, qd, qv, ev, pick, argE, List.map_cons, List.map_nil, Option.map_some, Option.map_none, zipE, List.cons_append, List.nil_append, ne_eq, eq_self, forall_const, implies_true, if_true, if_false, reduceIte, List.cons.injEq, reduceCtorEq, Nat.reduceEqDiff, List.length_nil, List.length_cons, Nat.reduceAdd, Nat.reduceLT, ↓us_lFnExactScoreRows, r_lFnExactScoreRows]
  have hx12 := hx1.trans hx2
  refine ⟨fun _ => hx12, fun h0 => ?_⟩
  obtain ⟨hl', hs'⟩ := hm' h0
  refine m_call (ltoLikedS_ok v ks hl _ (h.ext hx12)) ?_
  rintro v3 w3 hx3 ho3
  simp only [↓vsd, vsn, gW, qd, qv, ev, pick, argE, List.map_cons, List.map_nil, Option.map_some, Option.map_none, zipE, List.cons_append, List.nil_append, ne_eq, eq_self, forall_const, implies_true, if_true, if_false, reduceIte, List.cons.injEq, reduceCtorEq, Nat.reduceEqDiff, List.length_nil, List.length_cons, Nat.reduceAdd, Nat.reduceLT, ↓us_lFnExactScoreRows, r_lFnExactScoreRows]
  have hx13 := hx12.trans hx3
  refine m_call (ltoStringS_ok u l hl' _ (h'.ext hx13)) ?_
  rintro u4 w4 hx4 ho4
  simp only [↓vsd, vsn, gW, qd, qv, ev, pick, argE, List.map_cons, List.map_nil, Option.map_some, Option.map_none, zipE, List.cons_append, List.nil_append, ne_eq, eq_self, forall_const, implies_true, if_true, if_false, reduceIte, List.cons.injEq, reduceCtorEq, Nat.reduceEqDiff, List.length_nil, List.length_cons, Nat.reduceAdd, Nat.reduceLT, ↓us_lFnExactScoreRows, r_lFnExactScoreRows]
  have hx14 := hx13.trans hx4
  refine m_call (sScoreRows_ok v3 u4 ks l hs hl (by omega) _ (ho3.sq.ext hx4) ho4.sq) ?_
  rintro r5 w5 hx5 hr5
  obtain ⟨n, b, e⟩ : ∃ (n : Int) (b : Bool), scoreV ks l = .tuple ⟨[.int .i64 n, .bool b]⟩ := by unfold scoreV; split <;> exact ⟨_, _, rfl⟩
  rw [e] at hr5
  subst hr5
  have hx15 := hx14.trans hx5
  simp only [↓vsd, vsn, gW, qd, qv, ev, pick, argE, List.map_cons, List.map_nil, Option.map_some, Option.map_none, zipE, List.cons_append, List.nil_append, ne_eq, eq_self, forall_const, implies_true, if_true, if_false, reduceIte, List.cons.injEq, reduceCtorEq, Nat.reduceEqDiff, List.length_nil, List.length_cons, Nat.reduceAdd, Nat.reduceLT, ↓us_lFnExactScoreRows, r_lFnExactScoreRows]
  refine m_call (ltoLikedS_ok v ks hl _ (h.ext hx15)) ?_
  rintro v6 w6 hx6 ho6
  simp only [↓vsd, vsn, gW, qd, qv, ev, pick, argE, List.map_cons, List.map_nil, Option.map_some, Option.map_none, zipE, List.cons_append, List.nil_append, ne_eq, eq_self, forall_const, implies_true, if_true, if_false, reduceIte, List.cons.injEq, reduceCtorEq, Nat.reduceEqDiff, List.length_nil, List.length_cons, Nat.reduceAdd, Nat.reduceLT, ↓us_lFnExactScoreRows, r_lFnExactScoreRows]
  have hx16 := hx15.trans hx6
  refine m_call (ltoStringS_ok u l hl' _ (h'.ext hx16)) ?_
  rintro u7 w7 hx7 ho7
  simp only [↓vsd, vsn, gW, qd, qv, ev, pick, argE, List.map_cons, List.map_nil, Option.map_some, Option.map_none, zipE, List.cons_append, List.nil_append, ne_eq, eq_self, forall_const, implies_true, if_true, if_false, reduceIte, List.cons.injEq, reduceCtorEq, Nat.reduceEqDiff, List.length_nil, List.length_cons, Nat.reduceAdd, Nat.reduceLT, ↓us_lFnExactScoreRows, r_lFnExactScoreRows]
  have hx17 := hx16.trans hx7
  refine m_call (iScoreRows_ok v6 u7 ks l hs hl (by omega) _ (ho6.sq.ext hx7) ho7.sq) ?_
  rintro r8 w8 hx8 hr8
  rw [e] at hr8
  subst hr8
  have hx18 := hx17.trans hx8
  simp only [↓vsd, vsn, gW, qd, qv, ev, pick, argE, List.map_cons, List.map_nil, Option.map_some, Option.map_none, zipE, List.cons_append, List.nil_append, ne_eq, eq_self, forall_const, implies_true, if_true, if_false, reduceIte, List.cons.injEq, reduceCtorEq, Nat.reduceEqDiff, List.length_nil, List.length_cons, Nat.reduceAdd, Nat.reduceLT, ↓us_lFnExactScoreRows, r_lFnExactScoreRows]
  refine m_call (ltoLikedS_ok v ks hl _ (h.ext hx18)) ?_
  rintro v9 w9 hx9 ho9
  simp only [↓vsd, vsn, gW, qd, qv, ev, pick, argE, List.map_cons, List.map_nil, Option.map_some, Option.map_none, zipE, List.cons_append, List.nil_append, ne_eq, eq_self, forall_const, implies_true, if_true, if_false, reduceIte, List.cons.injEq, reduceCtorEq, Nat.reduceEqDiff, List.length_nil, List.length_cons, Nat.reduceAdd, Nat.reduceLT, ↓us_lFnExactScoreRows, r_lFnExactScoreRows]
  have hx19 := hx18.trans hx9
  refine m_call (leqLikedS_ok v6 v9 ks ks _ (ho6.sq.ext ((hx7.trans hx8).trans hx9)) ho9.sq hl) ?_
  rintro _ w10 hx10 rfl
  simp only [↓vsd, vsn, gW, qd, qv, ev, pick, argE, List.map_cons, List.map_nil, Option.map_some, Option.map_none, zipE, List.cons_append, List.nil_append, ne_eq, eq_self, forall_const, implies_true, if_true, if_false, reduceIte, List.cons.injEq, reduceCtorEq, Nat.reduceEqDiff, List.length_nil, List.length_cons, Nat.reduceAdd, Nat.reduceLT, ↓us_lFnExactScoreRows, r_lFnExactScoreRows]
  have hx110 := hx19.trans hx10
  refine m_call (ltoStringS_ok u l hl' _ (h'.ext hx110)) ?_
  rintro u11 w11 hx11 ho11
  simp only [↓vsd, vsn, gW, qd, qv, ev, pick, argE, List.map_cons, List.map_nil, Option.map_some, Option.map_none, zipE, List.cons_append, List.nil_append, ne_eq, eq_self, forall_const, implies_true, if_true, if_false, reduceIte, List.cons.injEq, reduceCtorEq, Nat.reduceEqDiff, List.length_nil, List.length_cons, Nat.reduceAdd, Nat.reduceLT, ↓us_lFnExactScoreRows, r_lFnExactScoreRows]
  refine m_call (leqStringS_ok u7 u11 l l _ (ho7.sq.ext (((hx8.trans hx9).trans hx10).trans hx11)) ho11.sq (by omega)) ?_
  rintro _ w12 hx12 rfl
  simp only [↓vsd, vsn, gW, qd, qv, ev, pick, argE, List.map_cons, List.map_nil, Option.map_some, Option.map_none, zipE, List.cons_append, List.nil_append, ne_eq, eq_self, forall_const, implies_true, if_true, if_false, reduceIte, List.cons.injEq, reduceCtorEq, Nat.reduceEqDiff, List.length_nil, List.length_cons, Nat.reduceAdd, Nat.reduceLT, ↓us_lFnExactScoreRows, r_lFnExactScoreRows]
  exact (hx110.trans hx11).trans hx12
end Go.Proofs.Ytffhjhjmbkcibaa
