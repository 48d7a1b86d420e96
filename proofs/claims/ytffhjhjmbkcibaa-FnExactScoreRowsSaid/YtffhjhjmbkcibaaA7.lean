/-
  Counting the rows that fit a pattern; the call of the law FnExactCountFits.
  Conditions: none.
-/
import Derived.Test.YtffhjhjmbkcibaaA3
import Derived.Test.YtffhjhjmbkcibaaA6
set_option linter.unusedSimpArgs false
set_option linter.unusedVariables false
set_option linter.defProp false
namespace Go.Proofs.Ytffhjhjmbkcibaa
open Go Go.RowKit
def t_icountFits_1 : X := (.cond (.t 16) (.reg [0, 5, 8, 9, 10] [.q 17 [] (.mv (.t 5)), .q 18 [] (.bin .add (.t 17) (.c (.int .i64 1))), .q 5 [] (.mv (.t 18))]) .skip)
theorem u_icountFits_1 (P : Program) (k : KT) (e : Env) (w : World) : vcK P t_icountFits_1 k e w = vcK P (.cond (.t 16) (.reg [0, 5, 8, 9, 10] [.q 17 [] (.mv (.t 5)), .q 18 [] (.bin .add (.t 17) (.c (.int .i64 1))), .q 5 [] (.mv (.t 18))]) .skip) k e w := rfl
def t_icountFits_2 : X := (.seq (.reg [0, 5, 8, 9, 10, 16] [.q 14 [] (.mv (.t 0)), .q 15 [] (.mv (.t 7)), .e (some 16) [] (.call false 90 [(.t 14), (.t 15)])]) t_icountFits_1)
theorem u_icountFits_2 (P : Program) (k : KT) (e : Env) (w : World) : vcK P t_icountFits_2 k e w = vcK P (.seq (.reg [0, 5, 8, 9, 10, 16] [.q 14 [] (.mv (.t 0)), .q 15 [] (.mv (.t 7)), .e (some 16) [] (.call false 90 [(.t 14), (.t 15)])]) t_icountFits_1) k e w := rfl
def t_icountFits_3 : X := (.reg [0, 5, 8, 9, 10] [.q 19 [] (.bin .add (.t 10) (.c (.int .i64 1))), .q 10 [] (.mv (.t 19))])
theorem u_icountFits_3 (P : Program) (k : KT) (e : Env) (w : World) : vcK P t_icountFits_3 k e w = vcK P (.reg [0, 5, 8, 9, 10] [.q 19 [] (.bin .add (.t 10) (.c (.int .i64 1))), .q 10 [] (.mv (.t 19))]) k e w := rfl
def t_icountFits_4 : X := (.seq (.blk 1 (.seq (.reg [0, 5, 7, 8, 9, 10] [.q 12 [] (.ia 1 (.t 8) (.t 10)), .q 13 [] (.ld (.t 12)), .q 7 [] (.mv (.t 13))]) t_icountFits_2)) t_icountFits_3)
theorem u_icountFits_4 (P : Program) (k : KT) (e : Env) (w : World) : vcK P t_icountFits_4 k e w = vcK P (.seq (.blk 1 (.seq (.reg [0, 5, 7, 8, 9, 10] [.q 12 [] (.ia 1 (.t 8) (.t 10)), .q 13 [] (.ld (.t 12)), .q 7 [] (.mv (.t 13))]) t_icountFits_2)) t_icountFits_3) k e w := rfl
def t_icountFits_5 : X := (.seq (.cond (.t 11) .skip (.exit 0)) t_icountFits_4)
theorem u_icountFits_5 (P : Program) (k : KT) (e : Env) (w : World) : vcK P t_icountFits_5 k e w = vcK P (.seq (.cond (.t 11) .skip (.exit 0)) t_icountFits_4) k e w := rfl
def t_icountFits_6 : X := (.seq (.reg [0, 5, 8, 9, 10, 11] [.q 11 [] (.bin .lss (.t 10) (.t 9))]) t_icountFits_5)
theorem u_icountFits_6 (P : Program) (k : KT) (e : Env) (w : World) : vcK P t_icountFits_6 k e w = vcK P (.seq (.reg [0, 5, 8, 9, 10, 11] [.q 11 [] (.bin .lss (.t 10) (.t 9))]) t_icountFits_5) k e w := rfl
def t_icountFits_7 : X := (.blk 0 (.loop [5, 10] [0, 8, 9] t_icountFits_6))
theorem u_icountFits_7 (P : Program) (k : KT) (e : Env) (w : World) : vcK P t_icountFits_7 k e w = vcK P (.blk 0 (.loop [5, 10] [0, 8, 9] t_icountFits_6)) k e w := rfl
def t_icountFits_8 : X := (.seq (.reg [4] [.q 20 [] (.mv (.t 5)), .q 4 [] (.mv (.t 20))]) .ret)
theorem u_icountFits_8 (P : Program) (k : KT) (e : Env) (w : World) : vcK P t_icountFits_8 k e w = vcK P (.seq (.reg [4] [.q 20 [] (.mv (.t 5)), .q 4 [] (.mv (.t 20))]) .ret) k e w := rfl
def t_icountFits_9 : X := (.seq (.seq (.reg [0, 5, 8, 9, 10] [.q 8 [] (.mv (.t 1)), .q 9 [] (.lens (.t 8)), .q 10 [] (.mv (.c (.int .i64 0)))]) t_icountFits_7) t_icountFits_8)
theorem u_icountFits_9 (P : Program) (k : KT) (e : Env) (w : World) : vcK P t_icountFits_9 k e w = vcK P (.seq (.seq (.reg [0, 5, 8, 9, 10] [.q 8 [] (.mv (.t 1)), .q 9 [] (.lens (.t 8)), .q 10 [] (.mv (.c (.int .i64 0)))]) t_icountFits_7) t_icountFits_8) k e w := rfl
def t_icountFits_10 : X := (.seq (.reg [0, 1, 5] [.q 5 [] (.mv (.c (.int .i64 0)))]) t_icountFits_9)
theorem u_icountFits_10 (P : Program) (k : KT) (e : Env) (w : World) : vcK P t_icountFits_10 k e w = vcK P (.seq (.reg [0, 1, 5] [.q 5 [] (.mv (.c (.int .i64 0)))]) t_icountFits_9) k e w := rfl
def x_icountFits : X := (.seq (.reg [0, 1] [.q 4 [] (.mv (.c (.int .i64 0)))]) t_icountFits_10)
theorem u_icountFits (P : Program) (k : KT) (e : Env) (w : World) : vcK P x_icountFits k e w = vcK P (.seq (.reg [0, 1] [.q 4 [] (.mv (.c (.int .i64 0)))]) t_icountFits_10) k e w := rfl
def r_icountFits : List XO := [(.mv (.t 4))]
theorem c_icountFits : convF Try.prog [] Try.f95 [([0, 1], []), ([0, 1, 5], []), ([0, 5, 8, 9, 10], []), ([5, 10], [0, 8, 9]), ([0, 5, 8, 9, 10, 11], []), ([0, 5, 7, 8, 9, 10], []), ([0, 5, 8, 9, 10, 16], []), ([0, 5, 8, 9, 10], []), ([0, 5, 8, 9, 10], []), ([4], [])] = some (x_icountFits, r_icountFits) := by kernel_rfl
def us_icountFits := And.intro @u_icountFits (And.intro @u_icountFits_1 (And.intro @u_icountFits_2 (And.intro @u_icountFits_3 (And.intro @u_icountFits_4 (And.intro @u_icountFits_5 (And.intro @u_icountFits_6 (And.intro @u_icountFits_7 (And.intro @u_icountFits_8 (And.intro @u_icountFits_9 @u_icountFits_10)))))))))
def t_sl16Count_1 : X := (.cond (.t 16) (.reg [0, 5, 8, 9, 10] [.q 17 [] (.mv (.t 5)), .q 18 [] (.bin .add (.t 17) (.c (.int .i64 1))), .q 5 [] (.mv (.t 18))]) .skip)
theorem u_sl16Count_1 (P : Program) (k : KT) (e : Env) (w : World) : vcK P t_sl16Count_1 k e w = vcK P (.cond (.t 16) (.reg [0, 5, 8, 9, 10] [.q 17 [] (.mv (.t 5)), .q 18 [] (.bin .add (.t 17) (.c (.int .i64 1))), .q 5 [] (.mv (.t 18))]) .skip) k e w := rfl
def t_sl16Count_2 : X := (.seq (.reg [0, 5, 8, 9, 10, 16] [.q 14 [] (.mv (.t 0)), .q 15 [] (.mv (.t 7)), .e (some 16) [] (.call false 86 [(.t 14), (.t 15)])]) t_sl16Count_1)
theorem u_sl16Count_2 (P : Program) (k : KT) (e : Env) (w : World) : vcK P t_sl16Count_2 k e w = vcK P (.seq (.reg [0, 5, 8, 9, 10, 16] [.q 14 [] (.mv (.t 0)), .q 15 [] (.mv (.t 7)), .e (some 16) [] (.call false 86 [(.t 14), (.t 15)])]) t_sl16Count_1) k e w := rfl
def t_sl16Count_3 : X := (.reg [0, 5, 8, 9, 10] [.q 19 [] (.bin .add (.t 10) (.c (.int .i64 1))), .q 10 [] (.mv (.t 19))])
theorem u_sl16Count_3 (P : Program) (k : KT) (e : Env) (w : World) : vcK P t_sl16Count_3 k e w = vcK P (.reg [0, 5, 8, 9, 10] [.q 19 [] (.bin .add (.t 10) (.c (.int .i64 1))), .q 10 [] (.mv (.t 19))]) k e w := rfl
def t_sl16Count_4 : X := (.seq (.blk 1 (.seq (.reg [0, 5, 7, 8, 9, 10] [.q 12 [] (.ia 1 (.t 8) (.t 10)), .q 13 [] (.ld (.t 12)), .q 7 [] (.mv (.t 13))]) t_sl16Count_2)) t_sl16Count_3)
theorem u_sl16Count_4 (P : Program) (k : KT) (e : Env) (w : World) : vcK P t_sl16Count_4 k e w = vcK P (.seq (.blk 1 (.seq (.reg [0, 5, 7, 8, 9, 10] [.q 12 [] (.ia 1 (.t 8) (.t 10)), .q 13 [] (.ld (.t 12)), .q 7 [] (.mv (.t 13))]) t_sl16Count_2)) t_sl16Count_3) k e w := rfl
def t_sl16Count_5 : X := (.seq (.cond (.t 11) .skip (.exit 0)) t_sl16Count_4)
theorem u_sl16Count_5 (P : Program) (k : KT) (e : Env) (w : World) : vcK P t_sl16Count_5 k e w = vcK P (.seq (.cond (.t 11) .skip (.exit 0)) t_sl16Count_4) k e w := rfl
def t_sl16Count_6 : X := (.seq (.reg [0, 5, 8, 9, 10, 11] [.q 11 [] (.bin .lss (.t 10) (.t 9))]) t_sl16Count_5)
theorem u_sl16Count_6 (P : Program) (k : KT) (e : Env) (w : World) : vcK P t_sl16Count_6 k e w = vcK P (.seq (.reg [0, 5, 8, 9, 10, 11] [.q 11 [] (.bin .lss (.t 10) (.t 9))]) t_sl16Count_5) k e w := rfl
def t_sl16Count_7 : X := (.blk 0 (.loop [5, 10] [0, 8, 9] t_sl16Count_6))
theorem u_sl16Count_7 (P : Program) (k : KT) (e : Env) (w : World) : vcK P t_sl16Count_7 k e w = vcK P (.blk 0 (.loop [5, 10] [0, 8, 9] t_sl16Count_6)) k e w := rfl
def t_sl16Count_8 : X := (.seq (.reg [4] [.q 20 [] (.mv (.t 5)), .q 4 [] (.mv (.t 20))]) .ret)
theorem u_sl16Count_8 (P : Program) (k : KT) (e : Env) (w : World) : vcK P t_sl16Count_8 k e w = vcK P (.seq (.reg [4] [.q 20 [] (.mv (.t 5)), .q 4 [] (.mv (.t 20))]) .ret) k e w := rfl
def t_sl16Count_9 : X := (.seq (.seq (.reg [0, 5, 8, 9, 10] [.q 8 [] (.mv (.t 1)), .q 9 [] (.lens (.t 8)), .q 10 [] (.mv (.c (.int .i64 0)))]) t_sl16Count_7) t_sl16Count_8)
theorem u_sl16Count_9 (P : Program) (k : KT) (e : Env) (w : World) : vcK P t_sl16Count_9 k e w = vcK P (.seq (.seq (.reg [0, 5, 8, 9, 10] [.q 8 [] (.mv (.t 1)), .q 9 [] (.lens (.t 8)), .q 10 [] (.mv (.c (.int .i64 0)))]) t_sl16Count_7) t_sl16Count_8) k e w := rfl
def t_sl16Count_10 : X := (.seq (.reg [0, 1, 5] [.q 5 [] (.mv (.c (.int .i64 0)))]) t_sl16Count_9)
theorem u_sl16Count_10 (P : Program) (k : KT) (e : Env) (w : World) : vcK P t_sl16Count_10 k e w = vcK P (.seq (.reg [0, 1, 5] [.q 5 [] (.mv (.c (.int .i64 0)))]) t_sl16Count_9) k e w := rfl
def x_sl16Count : X := (.seq (.reg [0, 1] [.q 4 [] (.mv (.c (.int .i64 0)))]) t_sl16Count_10)
theorem u_sl16Count (P : Program) (k : KT) (e : Env) (w : World) : vcK P x_sl16Count k e w = vcK P (.seq (.reg [0, 1] [.q 4 [] (.mv (.c (.int .i64 0)))]) t_sl16Count_10) k e w := rfl
def r_sl16Count : List XO := [(.mv (.t 4))]
theorem c_sl16Count : convF Try.prog [] Try.f93 [([0, 1], []), ([0, 1, 5], []), ([0, 5, 8, 9, 10], []), ([5, 10], [0, 8, 9]), ([0, 5, 8, 9, 10, 11], []), ([0, 5, 7, 8, 9, 10], []), ([0, 5, 8, 9, 10, 16], []), ([0, 5, 8, 9, 10], []), ([0, 5, 8, 9, 10], []), ([4], [])] = some (x_sl16Count, r_sl16Count) := by kernel_rfl
def us_sl16Count := And.intro @u_sl16Count (And.intro @u_sl16Count_1 (And.intro @u_sl16Count_2 (And.intro @u_sl16Count_3 (And.intro @u_sl16Count_4 (And.intro @u_sl16Count_5 (And.intro @u_sl16Count_6 (And.intro @u_sl16Count_7 (And.intro @u_sl16Count_8 (And.intro @u_sl16Count_9 @u_sl16Count_10)))))))))
def t_iCountFits_1 : X := (.cond (.t 13) (.seq (.reg [4, 5] [.q 4 [] (.mv (.c (.int .i64 0))), .q 5 [] (.mv (.c (.bool false)))]) .ret) .skip)
theorem u_iCountFits_1 (P : Program) (k : KT) (e : Env) (w : World) : vcK P t_iCountFits_1 k e w = vcK P (.cond (.t 13) (.seq (.reg [4, 5] [.q 4 [] (.mv (.c (.int .i64 0))), .q 5 [] (.mv (.c (.bool false)))]) .ret) .skip) k e w := rfl
def t_iCountFits_2 : X := (.seq (.reg [4, 5] [.q 14 [] (.mv (.t 0)), .q 15 [] (.mv (.t 1)), .e (some 16) [] (.call false 95 [(.t 14), (.t 15)]), .q 4 [] (.mv (.t 16)), .q 5 [] (.mv (.c (.bool true)))]) .ret)
theorem u_iCountFits_2 (P : Program) (k : KT) (e : Env) (w : World) : vcK P t_iCountFits_2 k e w = vcK P (.seq (.reg [4, 5] [.q 14 [] (.mv (.t 0)), .q 15 [] (.mv (.t 1)), .e (some 16) [] (.call false 95 [(.t 14), (.t 15)]), .q 4 [] (.mv (.t 16)), .q 5 [] (.mv (.c (.bool true)))]) .ret) k e w := rfl
def t_iCountFits_3 : X := (.seq (.seq (.reg [0, 1, 13] [.q 6 [] (.mv (.t 0)), .e (some 7) [] (.call false 79 [(.t 6)]), .q 8 [] (.not (.t 7)), .q 9 [] (.mv (.t 8)), .q 10 [(9, false)] (.mv (.t 1)), .e (some 11) [(9, false)] (.call false 94 [(.t 10)]), .q 12 [(9, false)] (.not (.t 11)), .q 13 [] (.pick (.t 9) (.c (.bool true)) (.t 12))]) t_iCountFits_1) t_iCountFits_2)
theorem u_iCountFits_3 (P : Program) (k : KT) (e : Env) (w : World) : vcK P t_iCountFits_3 k e w = vcK P (.seq (.seq (.reg [0, 1, 13] [.q 6 [] (.mv (.t 0)), .e (some 7) [] (.call false 79 [(.t 6)]), .q 8 [] (.not (.t 7)), .q 9 [] (.mv (.t 8)), .q 10 [(9, false)] (.mv (.t 1)), .e (some 11) [(9, false)] (.call false 94 [(.t 10)]), .q 12 [(9, false)] (.not (.t 11)), .q 13 [] (.pick (.t 9) (.c (.bool true)) (.t 12))]) t_iCountFits_1) t_iCountFits_2) k e w := rfl
def x_iCountFits : X := (.seq (.reg [0, 1] [.q 4 [] (.mv (.c (.int .i64 0))), .q 5 [] (.mv (.c (.bool false)))]) t_iCountFits_3)
theorem u_iCountFits (P : Program) (k : KT) (e : Env) (w : World) : vcK P x_iCountFits k e w = vcK P (.seq (.reg [0, 1] [.q 4 [] (.mv (.c (.int .i64 0))), .q 5 [] (.mv (.c (.bool false)))]) t_iCountFits_3) k e w := rfl
def r_iCountFits : List XO := [(.mv (.t 4)), (.mv (.t 5))]
theorem c_iCountFits : convF Try.prog [] Try.f23 [([0, 1], []), ([0, 1, 13], []), ([4, 5], []), ([4, 5], [])] = some (x_iCountFits, r_iCountFits) := by kernel_rfl
def us_iCountFits := And.intro @u_iCountFits (And.intro @u_iCountFits_1 (And.intro @u_iCountFits_2 @u_iCountFits_3))
def t_sCountFits_1 : X := (.cond (.t 13) (.seq (.reg [4, 5] [.q 4 [] (.mv (.c (.int .i64 0))), .q 5 [] (.mv (.c (.bool false)))]) .ret) .skip)
theorem u_sCountFits_1 (P : Program) (k : KT) (e : Env) (w : World) : vcK P t_sCountFits_1 k e w = vcK P (.cond (.t 13) (.seq (.reg [4, 5] [.q 4 [] (.mv (.c (.int .i64 0))), .q 5 [] (.mv (.c (.bool false)))]) .ret) .skip) k e w := rfl
def t_sCountFits_2 : X := (.seq (.reg [4, 5] [.q 14 [] (.mv (.t 0)), .q 15 [] (.mv (.t 1)), .e (some 16) [] (.call false 93 [(.t 14), (.t 15)]), .q 4 [] (.mv (.t 16)), .q 5 [] (.mv (.c (.bool true)))]) .ret)
theorem u_sCountFits_2 (P : Program) (k : KT) (e : Env) (w : World) : vcK P t_sCountFits_2 k e w = vcK P (.seq (.reg [4, 5] [.q 14 [] (.mv (.t 0)), .q 15 [] (.mv (.t 1)), .e (some 16) [] (.call false 93 [(.t 14), (.t 15)]), .q 4 [] (.mv (.t 16)), .q 5 [] (.mv (.c (.bool true)))]) .ret) k e w := rfl
def t_sCountFits_3 : X := (.seq (.seq (.reg [0, 1, 13] [.q 6 [] (.mv (.t 0)), .e (some 7) [] (.call false 83 [(.t 6)]), .q 8 [] (.not (.t 7)), .q 9 [] (.mv (.t 8)), .q 10 [(9, false)] (.mv (.t 1)), .e (some 11) [(9, false)] (.call false 92 [(.t 10)]), .q 12 [(9, false)] (.not (.t 11)), .q 13 [] (.pick (.t 9) (.c (.bool true)) (.t 12))]) t_sCountFits_1) t_sCountFits_2)
theorem u_sCountFits_3 (P : Program) (k : KT) (e : Env) (w : World) : vcK P t_sCountFits_3 k e w = vcK P (.seq (.seq (.reg [0, 1, 13] [.q 6 [] (.mv (.t 0)), .e (some 7) [] (.call false 83 [(.t 6)]), .q 8 [] (.not (.t 7)), .q 9 [] (.mv (.t 8)), .q 10 [(9, false)] (.mv (.t 1)), .e (some 11) [(9, false)] (.call false 92 [(.t 10)]), .q 12 [(9, false)] (.not (.t 11)), .q 13 [] (.pick (.t 9) (.c (.bool true)) (.t 12))]) t_sCountFits_1) t_sCountFits_2) k e w := rfl
def x_sCountFits : X := (.seq (.reg [0, 1] [.q 4 [] (.mv (.c (.int .i64 0))), .q 5 [] (.mv (.c (.bool false)))]) t_sCountFits_3)
theorem u_sCountFits (P : Program) (k : KT) (e : Env) (w : World) : vcK P x_sCountFits k e w = vcK P (.seq (.reg [0, 1] [.q 4 [] (.mv (.c (.int .i64 0))), .q 5 [] (.mv (.c (.bool false)))]) t_sCountFits_3) k e w := rfl
def r_sCountFits : List XO := [(.mv (.t 4)), (.mv (.t 5))]
theorem c_sCountFits : convF Try.prog [] Try.f21 [([0, 1], []), ([0, 1, 13], []), ([4, 5], []), ([4, 5], [])] = some (x_sCountFits, r_sCountFits) := by kernel_rfl
def us_sCountFits := And.intro @u_sCountFits (And.intro @u_sCountFits_1 (And.intro @u_sCountFits_2 @u_sCountFits_3))
def t_lFnExactCountFits_1 : X := (.cond (.t 13) (.seq (.reg [4] [.q 4 [] (.mv (.c (.bool true)))]) .ret) .skip)
theorem u_lFnExactCountFits_1 (P : Program) (k : KT) (e : Env) (w : World) : vcK P t_lFnExactCountFits_1 k e w = vcK P (.cond (.t 13) (.seq (.reg [4] [.q 4 [] (.mv (.c (.bool true)))]) .ret) .skip) k e w := rfl
def t_lFnExactCountFits_2 : X := (.cond (.t 18) (.seq (.reg [4] [.q 4 [] (.mv (.c (.bool true)))]) .ret) .skip)
theorem u_lFnExactCountFits_2 (P : Program) (k : KT) (e : Env) (w : World) : vcK P t_lFnExactCountFits_2 k e w = vcK P (.cond (.t 18) (.seq (.reg [4] [.q 4 [] (.mv (.c (.bool true)))]) .ret) .skip) k e w := rfl
def t_lFnExactCountFits_3 : X := (.cond (.t 41) (.seq (.reg [4] [.q 4 [] (.mv (.c (.bool false)))]) .ret) .skip)
theorem u_lFnExactCountFits_3 (P : Program) (k : KT) (e : Env) (w : World) : vcK P t_lFnExactCountFits_3 k e w = vcK P (.cond (.t 41) (.seq (.reg [4] [.q 4 [] (.mv (.c (.bool false)))]) .ret) .skip) k e w := rfl
def t_lFnExactCountFits_4 : X := (.cond (.t 46) (.seq (.reg [4] [.q 4 [] (.mv (.c (.bool false)))]) .ret) .skip)
theorem u_lFnExactCountFits_4 (P : Program) (k : KT) (e : Env) (w : World) : vcK P t_lFnExactCountFits_4 k e w = vcK P (.cond (.t 46) (.seq (.reg [4] [.q 4 [] (.mv (.c (.bool false)))]) .ret) .skip) k e w := rfl
def t_lFnExactCountFits_5 : X := (.seq (.reg [4] [.q 4 [] (.mv (.c (.bool true)))]) .ret)
theorem u_lFnExactCountFits_5 (P : Program) (k : KT) (e : Env) (w : World) : vcK P t_lFnExactCountFits_5 k e w = vcK P (.seq (.reg [4] [.q 4 [] (.mv (.c (.bool true)))]) .ret) k e w := rfl
def t_lFnExactCountFits_6 : X := (.seq (.seq (.reg [46] [.q 42 [] (.mv (.t 8)), .q 43 [] (.mv (.t 1)), .e (some 44) [] (.call false 22 [(.t 43)]), .e (some 45) [] (.call false 17 [(.t 42), (.t 44)]), .q 46 [] (.not (.t 45))]) t_lFnExactCountFits_4) t_lFnExactCountFits_5)
theorem u_lFnExactCountFits_6 (P : Program) (k : KT) (e : Env) (w : World) : vcK P t_lFnExactCountFits_6 k e w = vcK P (.seq (.seq (.reg [46] [.q 42 [] (.mv (.t 8)), .q 43 [] (.mv (.t 1)), .e (some 44) [] (.call false 22 [(.t 43)]), .e (some 45) [] (.call false 17 [(.t 42), (.t 44)]), .q 46 [] (.not (.t 45))]) t_lFnExactCountFits_4) t_lFnExactCountFits_5) k e w := rfl
def t_lFnExactCountFits_7 : X := (.seq (.seq (.reg [1, 8, 41] [.q 34 [] (.mv (.t 9)), .q 35 [] (.mv (.t 6)), .q 36 [] (.bin .neq (.t 34) (.t 35)), .q 37 [] (.mv (.t 36)), .q 38 [(37, false)] (.mv (.t 10)), .q 39 [(37, false)] (.mv (.t 7)), .q 40 [(37, false)] (.beq true (.t 38) (.t 39)), .q 41 [] (.pick (.t 37) (.c (.bool true)) (.t 40))]) t_lFnExactCountFits_3) t_lFnExactCountFits_6)
theorem u_lFnExactCountFits_7 (P : Program) (k : KT) (e : Env) (w : World) : vcK P t_lFnExactCountFits_7 k e w = vcK P (.seq (.seq (.reg [1, 8, 41] [.q 34 [] (.mv (.t 9)), .q 35 [] (.mv (.t 6)), .q 36 [] (.bin .neq (.t 34) (.t 35)), .q 37 [] (.mv (.t 36)), .q 38 [(37, false)] (.mv (.t 10)), .q 39 [(37, false)] (.mv (.t 7)), .q 40 [(37, false)] (.beq true (.t 38) (.t 39)), .q 41 [] (.pick (.t 37) (.c (.bool true)) (.t 40))]) t_lFnExactCountFits_3) t_lFnExactCountFits_6) k e w := rfl
def t_lFnExactCountFits_8 : X := (.seq (.reg [1, 6, 7, 8, 9, 10] [.q 29 [] (.mv (.t 0)), .q 30 [] (.mv (.t 8)), .e (some 31) [] (.call false 23 [(.t 29), (.t 30)]), .q 28 [] (.mv (.t 31)), .q 32 [] (.ext 0 (.t 28)), .q 33 [] (.ext 1 (.t 28)), .q 9 [] (.mv (.t 32)), .q 10 [] (.mv (.t 33))]) t_lFnExactCountFits_7)
theorem u_lFnExactCountFits_8 (P : Program) (k : KT) (e : Env) (w : World) : vcK P t_lFnExactCountFits_8 k e w = vcK P (.seq (.reg [1, 6, 7, 8, 9, 10] [.q 29 [] (.mv (.t 0)), .q 30 [] (.mv (.t 8)), .e (some 31) [] (.call false 23 [(.t 29), (.t 30)]), .q 28 [] (.mv (.t 31)), .q 32 [] (.ext 0 (.t 28)), .q 33 [] (.ext 1 (.t 28)), .q 9 [] (.mv (.t 32)), .q 10 [] (.mv (.t 33))]) t_lFnExactCountFits_7) k e w := rfl
def t_lFnExactCountFits_9 : X := (.seq (.reg [0, 1, 6, 7, 8] [.q 26 [] (.mv (.t 1)), .e (some 27) [] (.call false 22 [(.t 26)]), .q 8 [] (.mv (.t 27))]) t_lFnExactCountFits_8)
theorem u_lFnExactCountFits_9 (P : Program) (k : KT) (e : Env) (w : World) : vcK P t_lFnExactCountFits_9 k e w = vcK P (.seq (.reg [0, 1, 6, 7, 8] [.q 26 [] (.mv (.t 1)), .e (some 27) [] (.call false 22 [(.t 26)]), .q 8 [] (.mv (.t 27))]) t_lFnExactCountFits_8) k e w := rfl
def t_lFnExactCountFits_10 : X := (.seq (.reg [0, 1, 6, 7] [.q 20 [] (.mv (.t 0)), .q 21 [] (.mv (.t 1)), .e (some 22) [] (.call false 22 [(.t 21)]), .e (some 23) [] (.call false 21 [(.t 20), (.t 22)]), .q 19 [] (.mv (.t 23)), .q 24 [] (.ext 0 (.t 19)), .q 25 [] (.ext 1 (.t 19)), .q 6 [] (.mv (.t 24)), .q 7 [] (.mv (.t 25))]) t_lFnExactCountFits_9)
theorem u_lFnExactCountFits_10 (P : Program) (k : KT) (e : Env) (w : World) : vcK P t_lFnExactCountFits_10 k e w = vcK P (.seq (.reg [0, 1, 6, 7] [.q 20 [] (.mv (.t 0)), .q 21 [] (.mv (.t 1)), .e (some 22) [] (.call false 22 [(.t 21)]), .e (some 23) [] (.call false 21 [(.t 20), (.t 22)]), .q 19 [] (.mv (.t 23)), .q 24 [] (.ext 0 (.t 19)), .q 25 [] (.ext 1 (.t 19)), .q 6 [] (.mv (.t 24)), .q 7 [] (.mv (.t 25))]) t_lFnExactCountFits_9) k e w := rfl
def t_lFnExactCountFits_11 : X := (.seq (.seq (.reg [0, 1, 18] [.q 17 [] (.mv (.t 5)), .q 18 [] (.bin .lss (.t 17) (.c (.int .i64 0)))]) t_lFnExactCountFits_2) t_lFnExactCountFits_10)
theorem u_lFnExactCountFits_11 (P : Program) (k : KT) (e : Env) (w : World) : vcK P t_lFnExactCountFits_11 k e w = vcK P (.seq (.seq (.reg [0, 1, 18] [.q 17 [] (.mv (.t 5)), .q 18 [] (.bin .lss (.t 17) (.c (.int .i64 0)))]) t_lFnExactCountFits_2) t_lFnExactCountFits_10) k e w := rfl
def t_lFnExactCountFits_12 : X := (.seq (.reg [0, 1, 5] [.q 14 [] (.mv (.t 1)), .q 15 [] (.mv (.t 5)), .e (some 16) [] (.call false 20 [(.t 14), (.t 15)]), .q 5 [] (.mv (.t 16))]) t_lFnExactCountFits_11)
theorem u_lFnExactCountFits_12 (P : Program) (k : KT) (e : Env) (w : World) : vcK P t_lFnExactCountFits_12 k e w = vcK P (.seq (.reg [0, 1, 5] [.q 14 [] (.mv (.t 1)), .q 15 [] (.mv (.t 5)), .e (some 16) [] (.call false 20 [(.t 14), (.t 15)]), .q 5 [] (.mv (.t 16))]) t_lFnExactCountFits_11) k e w := rfl
def t_lFnExactCountFits_13 : X := (.seq (.reg [0, 1, 5] [.q 5 [] (.mv (.c (.int .i64 1048576)))]) t_lFnExactCountFits_12)
theorem u_lFnExactCountFits_13 (P : Program) (k : KT) (e : Env) (w : World) : vcK P t_lFnExactCountFits_13 k e w = vcK P (.seq (.reg [0, 1, 5] [.q 5 [] (.mv (.c (.int .i64 1048576)))]) t_lFnExactCountFits_12) k e w := rfl
def t_lFnExactCountFits_14 : X := (.seq (.seq (.reg [0, 1, 13] [.q 11 [] (.mv (.t 0)), .q 12 [] (.len (.t 11)), .q 13 [] (.bin .gtr (.t 12) (.c (.int .i64 1048576)))]) t_lFnExactCountFits_1) t_lFnExactCountFits_13)
theorem u_lFnExactCountFits_14 (P : Program) (k : KT) (e : Env) (w : World) : vcK P t_lFnExactCountFits_14 k e w = vcK P (.seq (.seq (.reg [0, 1, 13] [.q 11 [] (.mv (.t 0)), .q 12 [] (.len (.t 11)), .q 13 [] (.bin .gtr (.t 12) (.c (.int .i64 1048576)))]) t_lFnExactCountFits_1) t_lFnExactCountFits_13) k e w := rfl
def x_lFnExactCountFits : X := (.seq (.reg [0, 1] [.q 4 [] (.mv (.c (.bool false)))]) t_lFnExactCountFits_14)
theorem u_lFnExactCountFits (P : Program) (k : KT) (e : Env) (w : World) : vcK P x_lFnExactCountFits k e w = vcK P (.seq (.reg [0, 1] [.q 4 [] (.mv (.c (.bool false)))]) t_lFnExactCountFits_14) k e w := rfl
def r_lFnExactCountFits : List XO := [(.mv (.t 4))]
theorem c_lFnExactCountFits : convF Try.prog [] Try.f4 [([0, 1], []), ([0, 1, 13], []), ([4], []), ([0, 1, 5], []), ([0, 1, 5], []), ([0, 1, 18], []), ([4], []), ([0, 1, 6, 7], []), ([0, 1, 6, 7, 8], []), ([1, 6, 7, 8, 9, 10], []), ([1, 8, 41], []), ([4], []), ([46], []), ([4], []), ([4], [])] = some (x_lFnExactCountFits, r_lFnExactCountFits) := by kernel_rfl
def us_lFnExactCountFits := And.intro @u_lFnExactCountFits (And.intro @u_lFnExactCountFits_1 (And.intro @u_lFnExactCountFits_2 (And.intro @u_lFnExactCountFits_3 (And.intro @u_lFnExactCountFits_4 (And.intro @u_lFnExactCountFits_5 (And.intro @u_lFnExactCountFits_6 (And.intro @u_lFnExactCountFits_7 (And.intro @u_lFnExactCountFits_8 (And.intro @u_lFnExactCountFits_9 (And.intro @u_lFnExactCountFits_10 (And.intro @u_lFnExactCountFits_11 (And.intro @u_lFnExactCountFits_12 (And.intro @u_lFnExactCountFits_13 @u_lFnExactCountFits_14)))))))))))))

/-- How many rows fit. -/
def countL (p : List UInt8) (l : List (List UInt8)) : Nat := (l.filter (fitsL p)).length
theorem countL_le (p : List UInt8) (l : List (List UInt8)) : countL p l ≤ l.length := List.length_filter_le _ _
theorem countL_succ (p : List UInt8) (l : List (List UInt8)) (k : Nat) (h : k < l.length) : countL p (l.take (k + 1)) = countL p (l.take k) + if fitsL p (l.getD k []) then 1 else 0 := by
  unfold countL
  rw [List.take_add_one, List.getElem?_eq_getElem h, List.filter_append, List.length_append, List.getD_eq_getElem?_getD, List.getElem?_eq_getElem h]
  simp only [Option.toList_some, Option.getD_some, List.filter_cons, List.filter_nil]
  split <;> simp_all
theorem icountFits_ok (p : List UInt8) (v : Value) (l : List (List UInt8)) (hl : l.length ≤ 1000000000) (w : World) (h : Sq fS 1 w v l) : Fn 95 [S p, v] w (fun v _ => v = .int .i64 (countL p l : Nat)) := by
  (refine callsV_of mix Try.func95 c_icountFits ?_; simp only [↓vsd, vsn, gW, qd, qv, ev, pick, argE, List.map_cons, List.map_nil, Option.map_some, Option.map_none, zipE, List.cons_append, List.nil_append, ne_eq, eq_self, forall_const, implies_true, if_true, if_false, reduceIte, List.cons.injEq, reduceCtorEq, Nat.reduceEqDiff, List.length_nil, List.length_cons, Nat.reduceAdd, Nat.reduceLT, ↓us_icountFits, r_icountFits])
  simp only [↓vsd, vsn, gW, qd, qv, ev, pick, argE, List.map_cons, List.map_nil, Option.map_some, Option.map_none, zipE, List.cons_append, List.nil_append, ne_eq, eq_self, forall_const, implies_true, if_true, if_false, reduceIte, List.cons.injEq, reduceCtorEq, Nat.reduceEqDiff, List.length_nil, List.length_cons, Nat.reduceAdd, Nat.reduceLT, ↓us_icountFits, r_icountFits, h.facts]
  refine m_upto l.length (fun k vs w' => vs = [.int .i64 (countL p (l.take k) : Nat), .int .i64 k] ∧ Ext w w') ⟨rfl, Ext.refl _⟩ ?_
  rintro k vs w1 hk ⟨rfl, hx⟩
  have hq := h.ext hx
  have hc := countL_le p (l.take k)
  have hc2 : (l.take k).length ≤ l.length := by simp; omega
  by_cases hlt : k < l.length
  · have hltI : (k : Int) < l.length := by omega
    have hltJ : ¬ (l.length : Int) ≤ k := by omega
    have hcs := countL_succ p l k hlt
    simp only [↓vsd, vsn, gW, qd, qv, ev, pick, argE, List.map_cons, List.map_nil, Option.map_some, Option.map_none, zipE, List.cons_append, List.nil_append, ne_eq, eq_self, forall_const, implies_true, if_true, if_false, reduceIte, List.cons.injEq, reduceCtorEq, Nat.reduceEqDiff, List.length_nil, List.length_cons, Nat.reduceAdd, Nat.reduceLT, ↓us_icountFits, r_icountFits, hq.facts, hq.at1 [] hlt, hltI, hltJ]
    refine ⟨by omega, m_call (ifits_ok _ _ _ (Nat.le_refl _) _) ?_⟩
    rintro _ w2 hx2 rfl
    simp only [↓vsd, vsn, gW, qd, qv, ev, pick, argE, List.map_cons, List.map_nil, Option.map_some, Option.map_none, zipE, List.cons_append, List.nil_append, ne_eq, eq_self, forall_const, implies_true, if_true, if_false, reduceIte, List.cons.injEq, reduceCtorEq, Nat.reduceEqDiff, List.length_nil, List.length_cons, Nat.reduceAdd, Nat.reduceLT, ↓us_icountFits, r_icountFits]
    refine ⟨fun hy => ⟨inR_i64 (by omega), inR_i64 (by omega), UpTo.next hlt ⟨by rw [hcs, if_pos hy]; rfl, hx.trans hx2⟩⟩, fun hn => ⟨inR_i64 (by omega), UpTo.next hlt ⟨by rw [hcs, if_neg hn]; rfl, hx.trans hx2⟩⟩⟩
  · obtain rfl : k = l.length := by omega
    have hltI : ¬ (l.length : Int) < l.length := by omega
    simp only [↓vsd, vsn, gW, qd, qv, ev, pick, argE, List.map_cons, List.map_nil, Option.map_some, Option.map_none, zipE, List.cons_append, List.nil_append, ne_eq, eq_self, forall_const, implies_true, if_true, if_false, reduceIte, List.cons.injEq, reduceCtorEq, Nat.reduceEqDiff, List.length_nil, List.length_cons, Nat.reduceAdd, Nat.reduceLT, ↓us_icountFits, r_icountFits, hq.facts, hltI]
    exact ⟨hx, by rw [List.take_length]⟩
theorem sl16Count_ok (p : List UInt8) (v : Value) (l : List (List UInt8)) (hl : l.length ≤ 1000000000) (w : World) (h : Sq fS 1 w v l) : Fn 93 [S p, v] w (fun v _ => v = .int .i64 (countL p l : Nat)) := by
  (refine callsV_of mix Try.func93 c_sl16Count ?_; simp only [↓vsd, vsn, gW, qd, qv, ev, pick, argE, List.map_cons, List.map_nil, Option.map_some, Option.map_none, zipE, List.cons_append, List.nil_append, ne_eq, eq_self, forall_const, implies_true, if_true, if_false, reduceIte, List.cons.injEq, reduceCtorEq, Nat.reduceEqDiff, List.length_nil, List.length_cons, Nat.reduceAdd, Nat.reduceLT, ↓us_sl16Count, r_sl16Count])
  simp only [↓vsd, vsn, gW, qd, qv, ev, pick, argE, List.map_cons, List.map_nil, Option.map_some, Option.map_none, zipE, List.cons_append, List.nil_append, ne_eq, eq_self, forall_const, implies_true, if_true, if_false, reduceIte, List.cons.injEq, reduceCtorEq, Nat.reduceEqDiff, List.length_nil, List.length_cons, Nat.reduceAdd, Nat.reduceLT, ↓us_sl16Count, r_sl16Count, h.facts]
  refine m_upto l.length (fun k vs w' => vs = [.int .i64 (countL p (l.take k) : Nat), .int .i64 k] ∧ Ext w w') ⟨rfl, Ext.refl _⟩ ?_
  rintro k vs w1 hk ⟨rfl, hx⟩
  have hq := h.ext hx
  have hc := countL_le p (l.take k)
  have hc2 : (l.take k).length ≤ l.length := by simp; omega
  by_cases hlt : k < l.length
  · have hltI : (k : Int) < l.length := by omega
    have hltJ : ¬ (l.length : Int) ≤ k := by omega
    have hcs := countL_succ p l k hlt
    simp only [↓vsd, vsn, gW, qd, qv, ev, pick, argE, List.map_cons, List.map_nil, Option.map_some, Option.map_none, zipE, List.cons_append, List.nil_append, ne_eq, eq_self, forall_const, implies_true, if_true, if_false, reduceIte, List.cons.injEq, reduceCtorEq, Nat.reduceEqDiff, List.length_nil, List.length_cons, Nat.reduceAdd, Nat.reduceLT, ↓us_sl16Count, r_sl16Count, hq.facts, hq.at1 [] hlt, hltI, hltJ]
    refine ⟨by omega, m_call (sl16Fits_ok _ _ _ (Nat.le_refl _) _) ?_⟩
    rintro _ w2 hx2 rfl
    simp only [↓vsd, vsn, gW, qd, qv, ev, pick, argE, List.map_cons, List.map_nil, Option.map_some, Option.map_none, zipE, List.cons_append, List.nil_append, ne_eq, eq_self, forall_const, implies_true, if_true, if_false, reduceIte, List.cons.injEq, reduceCtorEq, Nat.reduceEqDiff, List.length_nil, List.length_cons, Nat.reduceAdd, Nat.reduceLT, ↓us_sl16Count, r_sl16Count]
    refine ⟨fun hy => ⟨inR_i64 (by omega), inR_i64 (by omega), UpTo.next hlt ⟨by rw [hcs, if_pos hy]; rfl, hx.trans hx2⟩⟩, fun hn => ⟨inR_i64 (by omega), UpTo.next hlt ⟨by rw [hcs, if_neg hn]; rfl, hx.trans hx2⟩⟩⟩
  · obtain rfl : k = l.length := by omega
    have hltI : ¬ (l.length : Int) < l.length := by omega
    simp only [↓vsd, vsn, gW, qd, qv, ev, pick, argE, List.map_cons, List.map_nil, Option.map_some, Option.map_none, zipE, List.cons_append, List.nil_append, ne_eq, eq_self, forall_const, implies_true, if_true, if_false, reduceIte, List.cons.injEq, reduceCtorEq, Nat.reduceEqDiff, List.length_nil, List.length_cons, Nat.reduceAdd, Nat.reduceLT, ↓us_sl16Count, r_sl16Count, hq.facts, hltI]
    exact ⟨hx, by rw [List.take_length]⟩
def countV (p : List UInt8) (l : List (List UInt8)) : Value := if IsPat p ∧ IsRows l then .tuple ⟨[.int .i64 (countL p l : Nat), .bool true]⟩ else .tuple ⟨[.int .i64 0, .bool false]⟩
theorem iCountFits_ok (p : List UInt8) (v : Value) (l : List (List UInt8)) (hp : p.length ≤ 1048576) (hl : l.length ≤ 1000000000) (w : World) (h : Sq fS 1 w v l) : Fn 23 [S p, v] w (fun v _ => v = countV p l) := by
  (refine callsV_of mix Try.func23 c_iCountFits ?_; simp only [↓vsd, vsn, gW, qd, qv, ev, pick, argE, List.map_cons, List.map_nil, Option.map_some, Option.map_none, zipE, List.cons_append, List.nil_append, ne_eq, eq_self, forall_const, implies_true, if_true, if_false, reduceIte, List.cons.injEq, reduceCtorEq, Nat.reduceEqDiff, List.length_nil, List.length_cons, Nat.reduceAdd, Nat.reduceLT, ↓us_iCountFits, r_iCountFits])
  refine m_call (iGoodPattern_ok _ (by omega) _) ?_
  rintro _ w1 hx1 rfl
  simp only [↓vsd, vsn, gW, qd, qv, ev, pick, argE, List.map_cons, List.map_nil, Option.map_some, Option.map_none, zipE, List.cons_append, List.nil_append, ne_eq, eq_self, forall_const, implies_true, if_true, if_false, reduceIte, List.cons.injEq, reduceCtorEq, Nat.reduceEqDiff, List.length_nil, List.length_cons, Nat.reduceAdd, Nat.reduceLT, ↓us_iCountFits, r_iCountFits]
  refine ⟨fun h1 => m_call (iGoodRows_ok v l hl _ (h.ext hx1)) ?_, fun h1 => ⟨hx1, by simp [countV, h1]⟩⟩
  rintro _ w2 hx2 rfl
  simp only [↓vsd, vsn, gW, qd, qv, ev, pick, argE, List.map_cons, List.map_nil, Option.map_some, Option.map_none, zipE, List.cons_append, List.nil_append, ne_eq, eq_self, forall_const, implies_true, if_true, if_false, reduceIte, List.cons.injEq, reduceCtorEq, Nat.reduceEqDiff, List.length_nil, List.length_cons, Nat.reduceAdd, Nat.reduceLT, ↓us_iCountFits, r_iCountFits]
  refine ⟨fun h2 => ⟨hx1.trans hx2, ?_⟩, fun h2 => m_call (icountFits_ok p v l hl _ (h.ext (hx1.trans hx2))) ?_⟩
  · rw [countV, if_neg (by simpa [h1] using h2)]
  rintro _ w3 hx3 rfl
  simp only [↓vsd, vsn, gW, qd, qv, ev, pick, argE, List.map_cons, List.map_nil, Option.map_some, Option.map_none, zipE, List.cons_append, List.nil_append, ne_eq, eq_self, forall_const, implies_true, if_true, if_false, reduceIte, List.cons.injEq, reduceCtorEq, Nat.reduceEqDiff, List.length_nil, List.length_cons, Nat.reduceAdd, Nat.reduceLT, ↓us_iCountFits, r_iCountFits]
  exact ⟨(hx1.trans hx2).trans hx3, by rw [countV, if_pos (by simpa using h2)]⟩
theorem sCountFits_ok (p : List UInt8) (v : Value) (l : List (List UInt8)) (hp : p.length ≤ 1048576) (hl : l.length ≤ 1000000000) (w : World) (h : Sq fS 1 w v l) : Fn 21 [S p, v] w (fun v _ => v = countV p l) := by
  (refine callsV_of mix Try.func21 c_sCountFits ?_; simp only [↓vsd, vsn, gW, qd, qv, ev, pick, argE, List.map_cons, List.map_nil, Option.map_some, Option.map_none, zipE, List.cons_append, List.nil_append, ne_eq, eq_self, forall_const, implies_true, if_true, if_false, reduceIte, List.cons.injEq, reduceCtorEq, Nat.reduceEqDiff, List.length_nil, List.length_cons, Nat.reduceAdd, Nat.reduceLT, ↓us_sCountFits, r_sCountFits])
  refine m_call (sl16Good_ok _ (by omega) _) ?_
  rintro _ w1 hx1 rfl
  simp only [↓vsd, vsn, gW, qd, qv, ev, pick, argE, List.map_cons, List.map_nil, Option.map_some, Option.map_none, zipE, List.cons_append, List.nil_append, ne_eq, eq_self, forall_const, implies_true, if_true, if_false, reduceIte, List.cons.injEq, reduceCtorEq, Nat.reduceEqDiff, List.length_nil, List.length_cons, Nat.reduceAdd, Nat.reduceLT, ↓us_sCountFits, r_sCountFits]
  refine ⟨fun h1 => m_call (sl6Rows_ok v l hl _ (h.ext hx1)) ?_, fun h1 => ⟨hx1, by simp [countV, h1]⟩⟩
  rintro _ w2 hx2 rfl
  simp only [↓vsd, vsn, gW, qd, qv, ev, pick, argE, List.map_cons, List.map_nil, Option.map_some, Option.map_none, zipE, List.cons_append, List.nil_append, ne_eq, eq_self, forall_const, implies_true, if_true, if_false, reduceIte, List.cons.injEq, reduceCtorEq, Nat.reduceEqDiff, List.length_nil, List.length_cons, Nat.reduceAdd, Nat.reduceLT, ↓us_sCountFits, r_sCountFits]
  refine ⟨fun h2 => ⟨hx1.trans hx2, ?_⟩, fun h2 => m_call (sl16Count_ok p v l hl _ (h.ext (hx1.trans hx2))) ?_⟩
  · rw [countV, if_neg (by simpa [h1] using h2)]
  rintro _ w3 hx3 rfl
  simp only [↓vsd, vsn, gW, qd, qv, ev, pick, argE, List.map_cons, List.map_nil, Option.map_some, Option.map_none, zipE, List.cons_append, List.nil_append, ne_eq, eq_self, forall_const, implies_true, if_true, if_false, reduceIte, List.cons.injEq, reduceCtorEq, Nat.reduceEqDiff, List.length_nil, List.length_cons, Nat.reduceAdd, Nat.reduceLT, ↓us_sCountFits, r_sCountFits]
  exact ⟨(hx1.trans hx2).trans hx3, by rw [countV, if_pos (by simpa using h2)]⟩
theorem lFnExactCountFits_ok (p : List UInt8) (v : Value) (l : List (List UInt8)) (hl : l.length ≤ 9223372036854775807) (hs : ∀ x ∈ l, x.length ≤ 9223372036854775807) (w : World) (h : Sq fS 1 w v l) : Fn 4 [S p, v] w (fun v _ => v = .bool true) := by
  (refine callsV_of mix Try.func4 c_lFnExactCountFits ?_; simp only [↓vsd, vsn, gW, qd, qv, ev, pick, argE, List.map_cons, List.map_nil, Option.map_some, Option.map_none, zipE, List.cons_append, List.nil_append, ne_eq, eq_self, forall_const, implies_true, if_true, if_false, reduceIte, List.cons.injEq, reduceCtorEq, Nat.reduceEqDiff, List.length_nil, List.length_cons, Nat.reduceAdd, Nat.reduceLT, ↓us_lFnExactCountFits, r_lFnExactCountFits])
  refine ⟨fun _ => Ext.refl _, fun hp => ?_⟩
  refine m_call (lszStringS_ok v l 1048576 (by omega) hl hs _ h) ?_
  rintro _ w1 hx1 ⟨m, rfl, hm1, hm⟩
  simp only [↓vsd, vsn, gW, qd, qv, ev, pick, argE, List.map_cons, List.map_nil, Option.map_some, Option.map_none, zipE, List.cons_append, List.nil_append, ne_eq, eq_self, forall_const, implies_true, if_true, if_false, reduceIte, List.cons.injEq, reduceCtorEq, Nat.reduceEqDiff, List.length_nil, List.length_cons, Nat.reduceAdd, Nat.reduceLT, ↓us_lFnExactCountFits, r_lFnExactCountFits]
  refine ⟨fun _ => hx1, fun h0 => ?_⟩
  obtain ⟨hl, hs⟩ := hm h0
  refine m_call (ltoStringS_ok v l hl _ (h.ext hx1)) ?_
  rintro v2 w2 hx2 ho2
  simp only [↓vsd, vsn, gW, qd, qv, ev, pick, argE, List.map_cons, List.map_nil, Option.map_some, Option.map_none, zipE, List.cons_append, List.nil_append, ne_eq, eq_self, forall_const, implies_true, if_true, if_false, reduceIte, List.cons.injEq, reduceCtorEq, Nat.reduceEqDiff, List.length_nil, List.length_cons, Nat.reduceAdd, Nat.reduceLT, ↓us_lFnExactCountFits, r_lFnExactCountFits]
  refine m_call (sCountFits_ok p v2 l (by omega) (by omega) _ ho2.sq) ?_
  rintro r3 w3 hx3 hr3
  have hx13 := (hx1.trans hx2).trans hx3
  have fin : ∀ (n : Int) (b : Bool), countV p l = .tuple ⟨[.int .i64 n, .bool b]⟩ → r3 = .tuple ⟨[.int .i64 n, .bool b]⟩ := fun n b e => by rw [hr3, e]
  obtain ⟨n, b, e⟩ : ∃ (n : Int) (b : Bool), countV p l = .tuple ⟨[.int .i64 n, .bool b]⟩ := by unfold countV; split <;> exact ⟨_, _, rfl⟩
  obtain rfl := fin n b e
  simp only [↓vsd, vsn, gW, qd, qv, ev, pick, argE, List.map_cons, List.map_nil, Option.map_some, Option.map_none, zipE, List.cons_append, List.nil_append, ne_eq, eq_self, forall_const, implies_true, if_true, if_false, reduceIte, List.cons.injEq, reduceCtorEq, Nat.reduceEqDiff, List.length_nil, List.length_cons, Nat.reduceAdd, Nat.reduceLT, ↓us_lFnExactCountFits, r_lFnExactCountFits]
  refine m_call (ltoStringS_ok v l hl _ (h.ext hx13)) ?_
  rintro v4 w4 hx4 ho4
  simp only [↓vsd, vsn, gW, qd, qv, ev, pick, argE, List.map_cons, List.map_nil, Option.map_some, Option.map_none, zipE, List.cons_append, List.nil_append, ne_eq, eq_self, forall_const, implies_true, if_true, if_false, reduceIte, List.cons.injEq, reduceCtorEq, Nat.reduceEqDiff, List.length_nil, List.length_cons, Nat.reduceAdd, Nat.reduceLT, ↓us_lFnExactCountFits, r_lFnExactCountFits]
  refine m_call (iCountFits_ok p v4 l (by omega) (by omega) _ ho4.sq) ?_
  rintro r5 w5 hx5 hr5
  rw [e] at hr5
  subst hr5
  have hx15 := (hx13.trans hx4).trans hx5
  simp only [↓vsd, vsn, gW, qd, qv, ev, pick, argE, List.map_cons, List.map_nil, Option.map_some, Option.map_none, zipE, List.cons_append, List.nil_append, ne_eq, eq_self, forall_const, implies_true, if_true, if_false, reduceIte, List.cons.injEq, reduceCtorEq, Nat.reduceEqDiff, List.length_nil, List.length_cons, Nat.reduceAdd, Nat.reduceLT, ↓us_lFnExactCountFits, r_lFnExactCountFits]
  refine m_call (ltoStringS_ok v l hl _ (h.ext hx15)) ?_
  rintro v6 w6 hx6 ho6
  simp only [↓vsd, vsn, gW, qd, qv, ev, pick, argE, List.map_cons, List.map_nil, Option.map_some, Option.map_none, zipE, List.cons_append, List.nil_append, ne_eq, eq_self, forall_const, implies_true, if_true, if_false, reduceIte, List.cons.injEq, reduceCtorEq, Nat.reduceEqDiff, List.length_nil, List.length_cons, Nat.reduceAdd, Nat.reduceLT, ↓us_lFnExactCountFits, r_lFnExactCountFits]
  refine m_call (leqStringS_ok v4 v6 l l _ (ho4.sq.ext (hx5.trans hx6)) ho6.sq (by omega)) ?_
  rintro _ w7 hx7 rfl
  simp only [↓vsd, vsn, gW, qd, qv, ev, pick, argE, List.map_cons, List.map_nil, Option.map_some, Option.map_none, zipE, List.cons_append, List.nil_append, ne_eq, eq_self, forall_const, implies_true, if_true, if_false, reduceIte, List.cons.injEq, reduceCtorEq, Nat.reduceEqDiff, List.length_nil, List.length_cons, Nat.reduceAdd, Nat.reduceLT, ↓us_lFnExactCountFits, r_lFnExactCountFits]
  exact (hx15.trans hx6).trans hx7
end Go.Proofs.Ytffhjhjmbkcibaa
