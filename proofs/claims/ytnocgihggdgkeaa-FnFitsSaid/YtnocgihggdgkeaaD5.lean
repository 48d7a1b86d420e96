/-
  The drawing of patterns and lists of rows.
  Conditions: none.
-/
import Derived.Test.YtnocgihggdgkeaaD2
import Derived.Test.YtnocgihggdgkeaaPe
set_option linter.unusedSimpArgs false
set_option linter.unusedVariables false
set_option linter.defProp false
namespace Go.Proofs.Ytnocgihggdgkeaa
open Go Go.RowKit
def t_sl1Cur_pattern_1 : X := (.cond (.t 8) (.reg [3] [.q 9 [] (.mv (.t 0)), .q 10 [] (.mv (.t 3)), .e (some 11) [] (.call true 144 [(.t 9), (.t 10), (.s [49, 50, 42, 63, 57])]), .q 3 [] (.mv (.t 11))]) .skip)
theorem u_sl1Cur_pattern_1 (P : Program) (k : KT) (e : Env) (w : World) : vcK P t_sl1Cur_pattern_1 k e w = vcK P (.cond (.t 8) (.reg [3] [.q 9 [] (.mv (.t 0)), .q 10 [] (.mv (.t 3)), .e (some 11) [] (.call true 144 [(.t 9), (.t 10), (.s [49, 50, 42, 63, 57])]), .q 3 [] (.mv (.t 11))]) .skip) k e w := rfl
def t_sl1Cur_pattern_2 : X := (.seq (.reg [2] [.q 12 [] (.mv (.t 3)), .q 2 [] (.mv (.t 12))]) .ret)
theorem u_sl1Cur_pattern_2 (P : Program) (k : KT) (e : Env) (w : World) : vcK P t_sl1Cur_pattern_2 k e w = vcK P (.seq (.reg [2] [.q 12 [] (.mv (.t 3)), .q 2 [] (.mv (.t 12))]) .ret) k e w := rfl
def t_sl1Cur_pattern_3 : X := (.seq (.seq (.reg [0, 3, 8] [.q 7 [] (.mv (.t 0)), .e (some 8) [] (.call true 96 [(.t 7), (.c (.int .i64 6))])]) t_sl1Cur_pattern_1) t_sl1Cur_pattern_2)
theorem u_sl1Cur_pattern_3 (P : Program) (k : KT) (e : Env) (w : World) : vcK P t_sl1Cur_pattern_3 k e w = vcK P (.seq (.seq (.reg [0, 3, 8] [.q 7 [] (.mv (.t 0)), .e (some 8) [] (.call true 96 [(.t 7), (.c (.int .i64 6))])]) t_sl1Cur_pattern_1) t_sl1Cur_pattern_2) k e w := rfl
def t_sl1Cur_pattern_4 : X := (.seq (.reg [0, 3] [.q 4 [] (.mv (.t 0)), .e (some 5) [] (.bsl 9 1 [(.s [42]), (.s [49, 42]), (.s [42, 52, 54]), (.s [63, 63, 50, 49, 42]), (.s [42, 49, 50, 51, 42]), (.s [49, 63, 51, 63]), (.s [42, 52, 63]), (.s [49, 50, 42]), (.s [42, 51, 50, 49]), (.s [53, 42, 49, 42]), (.s [63, 63, 63, 63]), (.s [42, 50, 42])]), .e (some 6) [] (.call true 134 [(.t 4), (.t 5)]), .q 3 [] (.mv (.t 6))]) t_sl1Cur_pattern_3)
theorem u_sl1Cur_pattern_4 (P : Program) (k : KT) (e : Env) (w : World) : vcK P t_sl1Cur_pattern_4 k e w = vcK P (.seq (.reg [0, 3] [.q 4 [] (.mv (.t 0)), .e (some 5) [] (.bsl 9 1 [(.s [42]), (.s [49, 42]), (.s [42, 52, 54]), (.s [63, 63, 50, 49, 42]), (.s [42, 49, 50, 51, 42]), (.s [49, 63, 51, 63]), (.s [42, 52, 63]), (.s [49, 50, 42]), (.s [42, 51, 50, 49]), (.s [53, 42, 49, 42]), (.s [63, 63, 63, 63]), (.s [42, 50, 42])]), .e (some 6) [] (.call true 134 [(.t 4), (.t 5)]), .q 3 [] (.mv (.t 6))]) t_sl1Cur_pattern_3) k e w := rfl
def x_sl1Cur_pattern : X := (.seq (.reg [0] [.q 2 [] (.mv (.s []))]) t_sl1Cur_pattern_4)
theorem u_sl1Cur_pattern (P : Program) (k : KT) (e : Env) (w : World) : vcK P x_sl1Cur_pattern k e w = vcK P (.seq (.reg [0] [.q 2 [] (.mv (.s []))]) t_sl1Cur_pattern_4) k e w := rfl
def r_sl1Cur_pattern : List XO := [(.mv (.t 2))]
theorem c_sl1Cur_pattern : convF Try.prog [95, 96, 97, 107, 117, 118, 128, 129, 134, 144, 145, 153, 154, 155, 156, 157, 174, 175, 182] Try.f128 [([0], []), ([0, 3], []), ([0, 3, 8], []), ([3], []), ([2], [])] = some (x_sl1Cur_pattern, r_sl1Cur_pattern) := by kernel_rfl
def us_sl1Cur_pattern := And.intro @u_sl1Cur_pattern (And.intro @u_sl1Cur_pattern_1 (And.intro @u_sl1Cur_pattern_2 (And.intro @u_sl1Cur_pattern_3 @u_sl1Cur_pattern_4)))
def t_sl1Cur_rowsOf_1 : X := (.cond (.t 14) .skip (.exit 0))
theorem u_sl1Cur_rowsOf_1 (P : Program) (k : KT) (e : Env) (w : World) : vcK P t_sl1Cur_rowsOf_1 k e w = vcK P (.cond (.t 14) .skip (.exit 0)) k e w := rfl
def t_sl1Cur_rowsOf_2 : X := (.reg [0, 1, 7, 8] [.q 15 [] (.mv (.t 8)), .q 16 [] (.bin .sub (.t 15) (.c (.int .i64 1))), .q 8 [] (.mv (.t 16))])
theorem u_sl1Cur_rowsOf_2 (P : Program) (k : KT) (e : Env) (w : World) : vcK P t_sl1Cur_rowsOf_2 k e w = vcK P (.reg [0, 1, 7, 8] [.q 15 [] (.mv (.t 8)), .q 16 [] (.bin .sub (.t 15) (.c (.int .i64 1))), .q 8 [] (.mv (.t 16))]) k e w := rfl
def t_sl1Cur_rowsOf_3 : X := (.seq (.blk 1 (.reg [0, 1, 7, 8] [.q 17 [] (.mv (.t 7)), .q 18 [] (.mv (.t 0)), .q 19 [] (.mv (.t 1)), .e (some 20) [] (.call true 97 [(.t 18), (.t 19)]), .e (some 21) [] (.bsl 9 1 [(.t 20)]), .e (some 22) [] (.app 22 9 1 16 [(S [])] 22 (.t 17) (.t 21)), .q 7 [] (.mv (.t 22))])) t_sl1Cur_rowsOf_2)
theorem u_sl1Cur_rowsOf_3 (P : Program) (k : KT) (e : Env) (w : World) : vcK P t_sl1Cur_rowsOf_3 k e w = vcK P (.seq (.blk 1 (.reg [0, 1, 7, 8] [.q 17 [] (.mv (.t 7)), .q 18 [] (.mv (.t 0)), .q 19 [] (.mv (.t 1)), .e (some 20) [] (.call true 97 [(.t 18), (.t 19)]), .e (some 21) [] (.bsl 9 1 [(.t 20)]), .e (some 22) [] (.app 22 9 1 16 [(S [])] 22 (.t 17) (.t 21)), .q 7 [] (.mv (.t 22))])) t_sl1Cur_rowsOf_2) k e w := rfl
def t_sl1Cur_rowsOf_4 : X := (.seq (.seq (.reg [0, 1, 7, 8, 14] [.q 13 [] (.mv (.t 8)), .q 14 [] (.bin .gtr (.t 13) (.c (.int .i64 0)))]) t_sl1Cur_rowsOf_1) t_sl1Cur_rowsOf_3)
theorem u_sl1Cur_rowsOf_4 (P : Program) (k : KT) (e : Env) (w : World) : vcK P t_sl1Cur_rowsOf_4 k e w = vcK P (.seq (.seq (.reg [0, 1, 7, 8, 14] [.q 13 [] (.mv (.t 8)), .q 14 [] (.bin .gtr (.t 13) (.c (.int .i64 0)))]) t_sl1Cur_rowsOf_1) t_sl1Cur_rowsOf_3) k e w := rfl
def t_sl1Cur_rowsOf_5 : X := (.blk 0 (.loop [7, 8] [0, 1] t_sl1Cur_rowsOf_4))
theorem u_sl1Cur_rowsOf_5 (P : Program) (k : KT) (e : Env) (w : World) : vcK P t_sl1Cur_rowsOf_5 k e w = vcK P (.blk 0 (.loop [7, 8] [0, 1] t_sl1Cur_rowsOf_4)) k e w := rfl
def t_sl1Cur_rowsOf_6 : X := (.cond (.t 29) (.reg [7] [.q 30 [] (.mv (.t 7)), .q 31 [] (.ia 1 (.t 30) (.c (.int .i64 0))), .e none [] (.st 1 (.t 31) (.s [49]))]) .skip)
theorem u_sl1Cur_rowsOf_6 (P : Program) (k : KT) (e : Env) (w : World) : vcK P t_sl1Cur_rowsOf_6 k e w = vcK P (.cond (.t 29) (.reg [7] [.q 30 [] (.mv (.t 7)), .q 31 [] (.ia 1 (.t 30) (.c (.int .i64 0))), .e none [] (.st 1 (.t 31) (.s [49]))]) .skip) k e w := rfl
def t_sl1Cur_rowsOf_7 : X := (.seq (.reg [6] [.q 32 [] (.mv (.t 7)), .q 6 [] (.mv (.t 32))]) .ret)
theorem u_sl1Cur_rowsOf_7 (P : Program) (k : KT) (e : Env) (w : World) : vcK P t_sl1Cur_rowsOf_7 k e w = vcK P (.seq (.reg [6] [.q 32 [] (.mv (.t 7)), .q 6 [] (.mv (.t 32))]) .ret) k e w := rfl
def t_sl1Cur_rowsOf_8 : X := (.seq (.seq (.reg [7, 29] [.q 23 [] (.mv (.t 7)), .q 24 [] (.lens (.t 23)), .q 25 [] (.bin .gtr (.t 24) (.c (.int .i64 0))), .q 26 [] (.mv (.t 25)), .q 27 [(26, true)] (.mv (.t 0)), .e (some 28) [(26, true)] (.call true 96 [(.t 27), (.c (.int .i64 25))]), .q 29 [] (.pick (.t 26) (.t 28) (.c (.bool false)))]) t_sl1Cur_rowsOf_6) t_sl1Cur_rowsOf_7)
theorem u_sl1Cur_rowsOf_8 (P : Program) (k : KT) (e : Env) (w : World) : vcK P t_sl1Cur_rowsOf_8 k e w = vcK P (.seq (.seq (.reg [7, 29] [.q 23 [] (.mv (.t 7)), .q 24 [] (.lens (.t 23)), .q 25 [] (.bin .gtr (.t 24) (.c (.int .i64 0))), .q 26 [] (.mv (.t 25)), .q 27 [(26, true)] (.mv (.t 0)), .e (some 28) [(26, true)] (.call true 96 [(.t 27), (.c (.int .i64 25))]), .q 29 [] (.pick (.t 26) (.t 28) (.c (.bool false)))]) t_sl1Cur_rowsOf_6) t_sl1Cur_rowsOf_7) k e w := rfl
def t_sl1Cur_rowsOf_9 : X := (.seq (.seq (.reg [0, 1, 7, 8] [.q 9 [] (.mv (.t 0)), .q 10 [] (.mv (.t 2)), .q 11 [] (.bin .add (.t 10) (.c (.int .i64 1))), .e (some 12) [] (.call true 118 [(.t 9), (.t 11)]), .q 8 [] (.mv (.t 12))]) t_sl1Cur_rowsOf_5) t_sl1Cur_rowsOf_8)
theorem u_sl1Cur_rowsOf_9 (P : Program) (k : KT) (e : Env) (w : World) : vcK P t_sl1Cur_rowsOf_9 k e w = vcK P (.seq (.seq (.reg [0, 1, 7, 8] [.q 9 [] (.mv (.t 0)), .q 10 [] (.mv (.t 2)), .q 11 [] (.bin .add (.t 10) (.c (.int .i64 1))), .e (some 12) [] (.call true 118 [(.t 9), (.t 11)]), .q 8 [] (.mv (.t 12))]) t_sl1Cur_rowsOf_5) t_sl1Cur_rowsOf_8) k e w := rfl
def t_sl1Cur_rowsOf_10 : X := (.seq (.reg [0, 1, 2, 7] [.q 7 [] (.mv (.c (.slice none 0 0)))]) t_sl1Cur_rowsOf_9)
theorem u_sl1Cur_rowsOf_10 (P : Program) (k : KT) (e : Env) (w : World) : vcK P t_sl1Cur_rowsOf_10 k e w = vcK P (.seq (.reg [0, 1, 2, 7] [.q 7 [] (.mv (.c (.slice none 0 0)))]) t_sl1Cur_rowsOf_9) k e w := rfl
def x_sl1Cur_rowsOf : X := (.seq (.reg [0, 1, 2] [.q 6 [] (.mv (.c (.slice none 0 0)))]) t_sl1Cur_rowsOf_10)
theorem u_sl1Cur_rowsOf (P : Program) (k : KT) (e : Env) (w : World) : vcK P x_sl1Cur_rowsOf k e w = vcK P (.seq (.reg [0, 1, 2] [.q 6 [] (.mv (.c (.slice none 0 0)))]) t_sl1Cur_rowsOf_10) k e w := rfl
def r_sl1Cur_rowsOf : List XO := [(.mv (.t 6))]
theorem c_sl1Cur_rowsOf : convF Try.prog [95, 96, 97, 107, 117, 118, 128, 129, 134, 144, 145, 153, 154, 155, 156, 157, 174, 175, 182] Try.f129 [([0, 1, 2], []), ([0, 1, 2, 7], []), ([0, 1, 7, 8], []), ([7, 8], [0, 1]), ([0, 1, 7, 8, 14], []), ([0, 1, 7, 8], []), ([0, 1, 7, 8], []), ([7, 29], []), ([7], []), ([6], [])] = some (x_sl1Cur_rowsOf, r_sl1Cur_rowsOf) := by kernel_rfl
def us_sl1Cur_rowsOf := And.intro @u_sl1Cur_rowsOf (And.intro @u_sl1Cur_rowsOf_1 (And.intro @u_sl1Cur_rowsOf_2 (And.intro @u_sl1Cur_rowsOf_3 (And.intro @u_sl1Cur_rowsOf_4 (And.intro @u_sl1Cur_rowsOf_5 (And.intro @u_sl1Cur_rowsOf_6 (And.intro @u_sl1Cur_rowsOf_7 (And.intro @u_sl1Cur_rowsOf_8 (And.intro @u_sl1Cur_rowsOf_9 @u_sl1Cur_rowsOf_10)))))))))
def t_sDrawFitsRow_1 : X := (.seq (.reg [2, 3] [.q 8 [] (.mv (.t 4)), .e (some 9) [] (.call true 128 [(.t 8)]), .q 10 [] (.mv (.t 4)), .e (some 11) [] (.call true 95 [(.t 10)]), .q 2 [] (.mv (.t 9)), .q 3 [] (.mv (.t 11))]) .ret)
theorem u_sDrawFitsRow_1 (P : Program) (k : KT) (e : Env) (w : World) : vcK P t_sDrawFitsRow_1 k e w = vcK P (.seq (.reg [2, 3] [.q 8 [] (.mv (.t 4)), .e (some 9) [] (.call true 128 [(.t 8)]), .q 10 [] (.mv (.t 4)), .e (some 11) [] (.call true 95 [(.t 10)]), .q 2 [] (.mv (.t 9)), .q 3 [] (.mv (.t 11))]) .ret) k e w := rfl
def t_sDrawFitsRow_2 : X := (.seq (.reg [4] [.q 5 [] (.mv (.t 0)), .q 6 [] (.bld [(.slice none 0 0), (.int .i64 0), (.int .u64 0)] [(0, 0, (.t 5))]), .e (some 7) [] (.box 88 (.t 6)), .q 4 [] (.mv (.t 7))]) t_sDrawFitsRow_1)
theorem u_sDrawFitsRow_2 (P : Program) (k : KT) (e : Env) (w : World) : vcK P t_sDrawFitsRow_2 k e w = vcK P (.seq (.reg [4] [.q 5 [] (.mv (.t 0)), .q 6 [] (.bld [(.slice none 0 0), (.int .i64 0), (.int .u64 0)] [(0, 0, (.t 5))]), .e (some 7) [] (.box 88 (.t 6)), .q 4 [] (.mv (.t 7))]) t_sDrawFitsRow_1) k e w := rfl
def x_sDrawFitsRow : X := (.seq (.reg [0] [.q 2 [] (.mv (.s [])), .q 3 [] (.mv (.s []))]) t_sDrawFitsRow_2)
theorem u_sDrawFitsRow (P : Program) (k : KT) (e : Env) (w : World) : vcK P x_sDrawFitsRow k e w = vcK P (.seq (.reg [0] [.q 2 [] (.mv (.s [])), .q 3 [] (.mv (.s []))]) t_sDrawFitsRow_2) k e w := rfl
def r_sDrawFitsRow : List XO := [(.mv (.t 2)), (.mv (.t 3))]
theorem c_sDrawFitsRow : convF Try.prog [95, 96, 97, 107, 117, 118, 128, 129, 134, 144, 145, 153, 154, 155, 156, 157, 174, 175, 182] Try.f61 [([0], []), ([4], []), ([2, 3], [])] = some (x_sDrawFitsRow, r_sDrawFitsRow) := by kernel_rfl
def us_sDrawFitsRow := And.intro @u_sDrawFitsRow (And.intro @u_sDrawFitsRow_1 @u_sDrawFitsRow_2)
def t_sDrawCountFits_1 : X := (.seq (.reg [2, 3] [.q 11 [] (.mv (.t 5)), .q 12 [] (.mv (.t 4)), .q 13 [] (.mv (.t 4)), .e (some 14) [] (.call true 117 [(.t 13)]), .e (some 15) [] (.call true 129 [(.t 12), (.t 14), (.c (.int .i64 9))]), .q 2 [] (.mv (.t 11)), .q 3 [] (.mv (.t 15))]) .ret)
theorem u_sDrawCountFits_1 (P : Program) (k : KT) (e : Env) (w : World) : vcK P t_sDrawCountFits_1 k e w = vcK P (.seq (.reg [2, 3] [.q 11 [] (.mv (.t 5)), .q 12 [] (.mv (.t 4)), .q 13 [] (.mv (.t 4)), .e (some 14) [] (.call true 117 [(.t 13)]), .e (some 15) [] (.call true 129 [(.t 12), (.t 14), (.c (.int .i64 9))]), .q 2 [] (.mv (.t 11)), .q 3 [] (.mv (.t 15))]) .ret) k e w := rfl
def t_sDrawCountFits_2 : X := (.seq (.reg [4, 5] [.q 9 [] (.mv (.t 4)), .e (some 10) [] (.call true 128 [(.t 9)]), .q 5 [] (.mv (.t 10))]) t_sDrawCountFits_1)
theorem u_sDrawCountFits_2 (P : Program) (k : KT) (e : Env) (w : World) : vcK P t_sDrawCountFits_2 k e w = vcK P (.seq (.reg [4, 5] [.q 9 [] (.mv (.t 4)), .e (some 10) [] (.call true 128 [(.t 9)]), .q 5 [] (.mv (.t 10))]) t_sDrawCountFits_1) k e w := rfl
def t_sDrawCountFits_3 : X := (.seq (.reg [4] [.q 6 [] (.mv (.t 0)), .q 7 [] (.bld [(.slice none 0 0), (.int .i64 0), (.int .u64 0)] [(0, 0, (.t 6))]), .e (some 8) [] (.box 88 (.t 7)), .q 4 [] (.mv (.t 8))]) t_sDrawCountFits_2)
theorem u_sDrawCountFits_3 (P : Program) (k : KT) (e : Env) (w : World) : vcK P t_sDrawCountFits_3 k e w = vcK P (.seq (.reg [4] [.q 6 [] (.mv (.t 0)), .q 7 [] (.bld [(.slice none 0 0), (.int .i64 0), (.int .u64 0)] [(0, 0, (.t 6))]), .e (some 8) [] (.box 88 (.t 7)), .q 4 [] (.mv (.t 8))]) t_sDrawCountFits_2) k e w := rfl
def x_sDrawCountFits : X := (.seq (.reg [0] [.q 2 [] (.mv (.s [])), .q 3 [] (.mv (.c (.slice none 0 0)))]) t_sDrawCountFits_3)
theorem u_sDrawCountFits (P : Program) (k : KT) (e : Env) (w : World) : vcK P x_sDrawCountFits k e w = vcK P (.seq (.reg [0] [.q 2 [] (.mv (.s [])), .q 3 [] (.mv (.c (.slice none 0 0)))]) t_sDrawCountFits_3) k e w := rfl
def r_sDrawCountFits : List XO := [(.mv (.t 2)), (.mv (.t 3))]
theorem c_sDrawCountFits : convF Try.prog [95, 96, 97, 107, 117, 118, 128, 129, 134, 144, 145, 153, 154, 155, 156, 157, 174, 175, 182] Try.f64 [([0], []), ([4], []), ([4, 5], []), ([2, 3], [])] = some (x_sDrawCountFits, r_sDrawCountFits) := by kernel_rfl
def us_sDrawCountFits := And.intro @u_sDrawCountFits (And.intro @u_sDrawCountFits_1 (And.intro @u_sDrawCountFits_2 @u_sDrawCountFits_3))
def t_sDrawRowsThatFit_1 : X := (.seq (.reg [2, 3] [.q 8 [] (.mv (.t 4)), .e (some 9) [] (.call true 128 [(.t 8)]), .q 10 [] (.mv (.t 4)), .e (some 11) [] (.bsl 3 1 [(.c (.int .i64 3)), (.c (.int .i64 4)), (.c (.int .i64 5)), (.c (.int .i64 6)), (.c (.int .i64 5)), (.c (.int .i64 4)), (.c (.int .i64 2)), (.c (.int .i64 7))]), .e (some 12) [] (.call true 107 [(.t 10), (.t 11)]), .q 2 [] (.mv (.t 9)), .q 3 [] (.mv (.t 12))]) .ret)
theorem u_sDrawRowsThatFit_1 (P : Program) (k : KT) (e : Env) (w : World) : vcK P t_sDrawRowsThatFit_1 k e w = vcK P (.seq (.reg [2, 3] [.q 8 [] (.mv (.t 4)), .e (some 9) [] (.call true 128 [(.t 8)]), .q 10 [] (.mv (.t 4)), .e (some 11) [] (.bsl 3 1 [(.c (.int .i64 3)), (.c (.int .i64 4)), (.c (.int .i64 5)), (.c (.int .i64 6)), (.c (.int .i64 5)), (.c (.int .i64 4)), (.c (.int .i64 2)), (.c (.int .i64 7))]), .e (some 12) [] (.call true 107 [(.t 10), (.t 11)]), .q 2 [] (.mv (.t 9)), .q 3 [] (.mv (.t 12))]) .ret) k e w := rfl
def t_sDrawRowsThatFit_2 : X := (.seq (.reg [4] [.q 5 [] (.mv (.t 0)), .q 6 [] (.bld [(.slice none 0 0), (.int .i64 0), (.int .u64 0)] [(0, 0, (.t 5))]), .e (some 7) [] (.box 88 (.t 6)), .q 4 [] (.mv (.t 7))]) t_sDrawRowsThatFit_1)
theorem u_sDrawRowsThatFit_2 (P : Program) (k : KT) (e : Env) (w : World) : vcK P t_sDrawRowsThatFit_2 k e w = vcK P (.seq (.reg [4] [.q 5 [] (.mv (.t 0)), .q 6 [] (.bld [(.slice none 0 0), (.int .i64 0), (.int .u64 0)] [(0, 0, (.t 5))]), .e (some 7) [] (.box 88 (.t 6)), .q 4 [] (.mv (.t 7))]) t_sDrawRowsThatFit_1) k e w := rfl
def x_sDrawRowsThatFit : X := (.seq (.reg [0] [.q 2 [] (.mv (.s [])), .q 3 [] (.mv (.c (.int .i64 0)))]) t_sDrawRowsThatFit_2)
theorem u_sDrawRowsThatFit (P : Program) (k : KT) (e : Env) (w : World) : vcK P x_sDrawRowsThatFit k e w = vcK P (.seq (.reg [0] [.q 2 [] (.mv (.s [])), .q 3 [] (.mv (.c (.int .i64 0)))]) t_sDrawRowsThatFit_2) k e w := rfl
def r_sDrawRowsThatFit : List XO := [(.mv (.t 2)), (.mv (.t 3))]
theorem c_sDrawRowsThatFit : convF Try.prog [95, 96, 97, 107, 117, 118, 128, 129, 134, 144, 145, 153, 154, 155, 156, 157, 174, 175, 182] Try.f67 [([0], []), ([4], []), ([2, 3], [])] = some (x_sDrawRowsThatFit, r_sDrawRowsThatFit) := by kernel_rfl
def us_sDrawRowsThatFit := And.intro @u_sDrawRowsThatFit (And.intro @u_sDrawRowsThatFit_1 @u_sDrawRowsThatFit_2)
def t_sDrawRunsIn_1 : X := (.cond (.t 12) (.reg [4, 5] [.q 13 [] (.mv (.t 4)), .e (some 14) [] (.bsl 9 1 [(.s [49, 50, 51, 52, 53, 54, 55, 56]), (.s [56, 55, 54, 53, 52, 51, 50, 49]), (.s [49, 50, 51, 52]), (.s [50, 49, 51, 52, 53, 54]), (.s [54, 53, 52, 51, 50, 49])]), .e (some 15) [] (.call true 134 [(.t 13), (.t 14)]), .q 5 [] (.mv (.t 15))]) .skip)
theorem u_sDrawRunsIn_1 (P : Program) (k : KT) (e : Env) (w : World) : vcK P t_sDrawRunsIn_1 k e w = vcK P (.cond (.t 12) (.reg [4, 5] [.q 13 [] (.mv (.t 4)), .e (some 14) [] (.bsl 9 1 [(.s [49, 50, 51, 52, 53, 54, 55, 56]), (.s [56, 55, 54, 53, 52, 51, 50, 49]), (.s [49, 50, 51, 52]), (.s [50, 49, 51, 52, 53, 54]), (.s [54, 53, 52, 51, 50, 49])]), .e (some 15) [] (.call true 134 [(.t 13), (.t 14)]), .q 5 [] (.mv (.t 15))]) .skip) k e w := rfl
def t_sDrawRunsIn_2 : X := (.seq (.reg [2, 3] [.q 16 [] (.mv (.t 5)), .q 17 [] (.mv (.t 4)), .e (some 18) [] (.call true 118 [(.t 17), (.c (.int .i64 10))]), .q 2 [] (.mv (.t 16)), .q 3 [] (.mv (.t 18))]) .ret)
theorem u_sDrawRunsIn_2 (P : Program) (k : KT) (e : Env) (w : World) : vcK P t_sDrawRunsIn_2 k e w = vcK P (.seq (.reg [2, 3] [.q 16 [] (.mv (.t 5)), .q 17 [] (.mv (.t 4)), .e (some 18) [] (.call true 118 [(.t 17), (.c (.int .i64 10))]), .q 2 [] (.mv (.t 16)), .q 3 [] (.mv (.t 18))]) .ret) k e w := rfl
def t_sDrawRunsIn_3 : X := (.seq (.seq (.reg [4, 5, 12] [.q 11 [] (.mv (.t 4)), .e (some 12) [] (.call true 96 [(.t 11), (.c (.int .i64 3))])]) t_sDrawRunsIn_1) t_sDrawRunsIn_2)
theorem u_sDrawRunsIn_3 (P : Program) (k : KT) (e : Env) (w : World) : vcK P t_sDrawRunsIn_3 k e w = vcK P (.seq (.seq (.reg [4, 5, 12] [.q 11 [] (.mv (.t 4)), .e (some 12) [] (.call true 96 [(.t 11), (.c (.int .i64 3))])]) t_sDrawRunsIn_1) t_sDrawRunsIn_2) k e w := rfl
def t_sDrawRunsIn_4 : X := (.seq (.reg [4, 5] [.q 9 [] (.mv (.t 4)), .e (some 10) [] (.call true 95 [(.t 9)]), .q 5 [] (.mv (.t 10))]) t_sDrawRunsIn_3)
theorem u_sDrawRunsIn_4 (P : Program) (k : KT) (e : Env) (w : World) : vcK P t_sDrawRunsIn_4 k e w = vcK P (.seq (.reg [4, 5] [.q 9 [] (.mv (.t 4)), .e (some 10) [] (.call true 95 [(.t 9)]), .q 5 [] (.mv (.t 10))]) t_sDrawRunsIn_3) k e w := rfl
def t_sDrawRunsIn_5 : X := (.seq (.reg [4] [.q 6 [] (.mv (.t 0)), .q 7 [] (.bld [(.slice none 0 0), (.int .i64 0), (.int .u64 0)] [(0, 0, (.t 6))]), .e (some 8) [] (.box 88 (.t 7)), .q 4 [] (.mv (.t 8))]) t_sDrawRunsIn_4)
theorem u_sDrawRunsIn_5 (P : Program) (k : KT) (e : Env) (w : World) : vcK P t_sDrawRunsIn_5 k e w = vcK P (.seq (.reg [4] [.q 6 [] (.mv (.t 0)), .q 7 [] (.bld [(.slice none 0 0), (.int .i64 0), (.int .u64 0)] [(0, 0, (.t 6))]), .e (some 8) [] (.box 88 (.t 7)), .q 4 [] (.mv (.t 8))]) t_sDrawRunsIn_4) k e w := rfl
def x_sDrawRunsIn : X := (.seq (.reg [0] [.q 2 [] (.mv (.s [])), .q 3 [] (.mv (.c (.int .i64 0)))]) t_sDrawRunsIn_5)
theorem u_sDrawRunsIn (P : Program) (k : KT) (e : Env) (w : World) : vcK P x_sDrawRunsIn k e w = vcK P (.seq (.reg [0] [.q 2 [] (.mv (.s [])), .q 3 [] (.mv (.c (.int .i64 0)))]) t_sDrawRunsIn_5) k e w := rfl
def r_sDrawRunsIn : List XO := [(.mv (.t 2)), (.mv (.t 3))]
theorem c_sDrawRunsIn : convF Try.prog [95, 96, 97, 107, 117, 118, 128, 129, 134, 144, 145, 153, 154, 155, 156, 157, 174, 175, 182] Try.f68 [([0], []), ([4], []), ([4, 5], []), ([4, 5, 12], []), ([4, 5], []), ([2, 3], [])] = some (x_sDrawRunsIn, r_sDrawRunsIn) := by kernel_rfl
def us_sDrawRunsIn := And.intro @u_sDrawRunsIn (And.intro @u_sDrawRunsIn_1 (And.intro @u_sDrawRunsIn_2 (And.intro @u_sDrawRunsIn_3 (And.intro @u_sDrawRunsIn_4 @u_sDrawRunsIn_5))))
def t_lqSameS_1 : X := (.cond (.t 10) (.seq (.reg [4] [.q 4 [] (.mv (.c (.bool false)))]) .ret) .skip)
theorem u_lqSameS_1 (P : Program) (k : KT) (e : Env) (w : World) : vcK P t_lqSameS_1 k e w = vcK P (.cond (.t 10) (.seq (.reg [4] [.q 4 [] (.mv (.c (.bool false)))]) .ret) .skip) k e w := rfl
def t_lqSameS_2 : X := (.cond (.t 24) (.seq (.reg [4] [.q 4 [] (.mv (.c (.bool false)))]) .ret) .skip)
theorem u_lqSameS_2 (P : Program) (k : KT) (e : Env) (w : World) : vcK P t_lqSameS_2 k e w = vcK P (.cond (.t 24) (.seq (.reg [4] [.q 4 [] (.mv (.c (.bool false)))]) .ret) .skip) k e w := rfl
def t_lqSameS_3 : X := (.seq (.drw [0, 1, 12, 13, 24] [.q 16 [] (.mv (.t 0)), .q 17 [] (.mv (.t 5)), .q 18 [] (.ia 1 (.t 16) (.t 17)), .q 19 [] (.ld (.t 18)), .q 20 [] (.mv (.t 1)), .q 21 [] (.mv (.t 5)), .q 22 [] (.ia 1 (.t 20) (.t 21)), .q 23 [] (.ld (.t 22)), .q 24 [] (.bin .neq (.t 19) (.t 23))]) t_lqSameS_2)
theorem u_lqSameS_3 (P : Program) (k : KT) (e : Env) (w : World) : vcK P t_lqSameS_3 k e w = vcK P (.seq (.drw [0, 1, 12, 13, 24] [.q 16 [] (.mv (.t 0)), .q 17 [] (.mv (.t 5)), .q 18 [] (.ia 1 (.t 16) (.t 17)), .q 19 [] (.ld (.t 18)), .q 20 [] (.mv (.t 1)), .q 21 [] (.mv (.t 5)), .q 22 [] (.ia 1 (.t 20) (.t 21)), .q 23 [] (.ld (.t 22)), .q 24 [] (.bin .neq (.t 19) (.t 23))]) t_lqSameS_2) k e w := rfl
def t_lqSameS_4 : X := (.reg [0, 1, 12, 13] [.q 25 [] (.bin .add (.t 13) (.c (.int .i64 1))), .q 13 [] (.mv (.t 25))])
theorem u_lqSameS_4 (P : Program) (k : KT) (e : Env) (w : World) : vcK P t_lqSameS_4 k e w = vcK P (.reg [0, 1, 12, 13] [.q 25 [] (.bin .add (.t 13) (.c (.int .i64 1))), .q 13 [] (.mv (.t 25))]) k e w := rfl
def t_lqSameS_5 : X := (.seq (.blk 1 (.seq (.reg [0, 1, 5, 12, 13] [.q 15 [] (.mv (.t 13)), .q 5 [] (.mv (.t 15))]) t_lqSameS_3)) t_lqSameS_4)
theorem u_lqSameS_5 (P : Program) (k : KT) (e : Env) (w : World) : vcK P t_lqSameS_5 k e w = vcK P (.seq (.blk 1 (.seq (.reg [0, 1, 5, 12, 13] [.q 15 [] (.mv (.t 13)), .q 5 [] (.mv (.t 15))]) t_lqSameS_3)) t_lqSameS_4) k e w := rfl
def t_lqSameS_6 : X := (.seq (.cond (.t 14) .skip (.exit 0)) t_lqSameS_5)
theorem u_lqSameS_6 (P : Program) (k : KT) (e : Env) (w : World) : vcK P t_lqSameS_6 k e w = vcK P (.seq (.cond (.t 14) .skip (.exit 0)) t_lqSameS_5) k e w := rfl
def t_lqSameS_7 : X := (.seq (.reg [0, 1, 12, 13, 14] [.q 14 [] (.bin .lss (.t 13) (.t 12))]) t_lqSameS_6)
theorem u_lqSameS_7 (P : Program) (k : KT) (e : Env) (w : World) : vcK P t_lqSameS_7 k e w = vcK P (.seq (.reg [0, 1, 12, 13, 14] [.q 14 [] (.bin .lss (.t 13) (.t 12))]) t_lqSameS_6) k e w := rfl
def t_lqSameS_8 : X := (.blk 0 (.loop [13] [0, 1, 12] t_lqSameS_7))
theorem u_lqSameS_8 (P : Program) (k : KT) (e : Env) (w : World) : vcK P t_lqSameS_8 k e w = vcK P (.blk 0 (.loop [13] [0, 1, 12] t_lqSameS_7)) k e w := rfl
def t_lqSameS_9 : X := (.seq (.reg [4] [.q 4 [] (.mv (.c (.bool true)))]) .ret)
theorem u_lqSameS_9 (P : Program) (k : KT) (e : Env) (w : World) : vcK P t_lqSameS_9 k e w = vcK P (.seq (.reg [4] [.q 4 [] (.mv (.c (.bool true)))]) .ret) k e w := rfl
def t_lqSameS_10 : X := (.seq (.seq (.reg [0, 1, 12, 13] [.q 11 [] (.mv (.t 0)), .q 12 [] (.lens (.t 11)), .q 13 [] (.mv (.c (.int .i64 0)))]) t_lqSameS_8) t_lqSameS_9)
theorem u_lqSameS_10 (P : Program) (k : KT) (e : Env) (w : World) : vcK P t_lqSameS_10 k e w = vcK P (.seq (.seq (.reg [0, 1, 12, 13] [.q 11 [] (.mv (.t 0)), .q 12 [] (.lens (.t 11)), .q 13 [] (.mv (.c (.int .i64 0)))]) t_lqSameS_8) t_lqSameS_9) k e w := rfl
def t_lqSameS_11 : X := (.seq (.seq (.reg [0, 1, 10] [.q 6 [] (.mv (.t 0)), .q 7 [] (.lens (.t 6)), .q 8 [] (.mv (.t 1)), .q 9 [] (.lens (.t 8)), .q 10 [] (.bin .neq (.t 7) (.t 9))]) t_lqSameS_1) t_lqSameS_10)
theorem u_lqSameS_11 (P : Program) (k : KT) (e : Env) (w : World) : vcK P t_lqSameS_11 k e w = vcK P (.seq (.seq (.reg [0, 1, 10] [.q 6 [] (.mv (.t 0)), .q 7 [] (.lens (.t 6)), .q 8 [] (.mv (.t 1)), .q 9 [] (.lens (.t 8)), .q 10 [] (.bin .neq (.t 7) (.t 9))]) t_lqSameS_1) t_lqSameS_10) k e w := rfl
def x_lqSameS : X := (.seq (.reg [0, 1] [.q 4 [] (.mv (.c (.bool false)))]) t_lqSameS_11)
theorem u_lqSameS (P : Program) (k : KT) (e : Env) (w : World) : vcK P x_lqSameS k e w = vcK P (.seq (.reg [0, 1] [.q 4 [] (.mv (.c (.bool false)))]) t_lqSameS_11) k e w := rfl
def r_lqSameS : List XO := [(.mv (.t 4))]
theorem c_lqSameS : convF Try.prog [95, 96, 97, 107, 117, 118, 128, 129, 134, 144, 145, 153, 154, 155, 156, 157, 174, 175, 182] Try.f71 [([0, 1], []), ([0, 1, 10], []), ([4], []), ([0, 1, 12, 13], []), ([13], [0, 1, 12]), ([0, 1, 12, 13, 14], []), ([0, 1, 5, 12, 13], []), ([0, 1, 12, 13, 24], []), ([4], []), ([0, 1, 12, 13], []), ([4], [])] = some (x_lqSameS, r_lqSameS) := by kernel_rfl
def us_lqSameS := And.intro @u_lqSameS (And.intro @u_lqSameS_1 (And.intro @u_lqSameS_2 (And.intro @u_lqSameS_3 (And.intro @u_lqSameS_4 (And.intro @u_lqSameS_5 (And.intro @u_lqSameS_6 (And.intro @u_lqSameS_7 (And.intro @u_lqSameS_8 (And.intro @u_lqSameS_9 (And.intro @u_lqSameS_10 @u_lqSameS_11))))))))))

theorem sl1Cur_pattern_ok (W : World) (b n : Nat) (w : World) (hn : n ≤ 700000000) (hc : Cur W b n w) : CurFn 128 [cV b] W b n 40 w (fun r _ => ∃ x, r = S x ∧ x.length ≤ 20) := by
  (refine callsV_of mix Try.func128 c_sl1Cur_pattern ?_; simp only [↓vsd, vsn, gW, qd, qv, ev, pick, argE, List.map_cons, List.map_nil, Option.map_some, Option.map_none, zipE, List.cons_append, List.nil_append, ne_eq, eq_self, forall_const, implies_true, if_true, if_false, reduceIte, List.cons.injEq, reduceCtorEq, Nat.reduceEqDiff, List.length_nil, List.length_cons, Nat.reduceAdd, Nat.reduceLT, List.set_cons_zero, List.set_cons_succ, ↓us_sl1Cur_pattern, r_sl1Cur_pattern])
  refine m_bsl (fun p hp => by simp only [List.mem_cons, List.not_mem_nil, or_false] at hp; rcases hp with rfl | rfl | rfl | rfl | rfl | rfl | rfl | rfl | rfl | rfl | rfl | rfl <;> rfl) ?_
  rintro b1 w1 hb1 hblk1 hx1 hs1
  have hlt := hc.lt
  simp only [↓vsd, vsn, gW, qd, qv, ev, pick, argE, List.map_cons, List.map_nil, Option.map_some, Option.map_none, zipE, List.cons_append, List.nil_append, ne_eq, eq_self, forall_const, implies_true, if_true, if_false, reduceIte, List.cons.injEq, reduceCtorEq, Nat.reduceEqDiff, List.length_nil, List.length_cons, Nat.reduceAdd, Nat.reduceLT, List.set_cons_zero, List.set_cons_succ, ↓us_sl1Cur_pattern, r_sl1Cur_pattern]
  refine m_callw (.inl rfl) (sl1Cur_of_ok W b n _ [[42], [49, 42], [42, 52, 54], [63, 63, 50, 49, 42], [42, 49, 50, 51, 42], [49, 63, 51, 63], [42, 52, 63], [49, 50, 42], [42, 51, 50, 49], [53, 42, 49, 42], [63, 63, 63, 63], [42, 50, 42]] w1 (by omega) (by decide) (hc.ext hx1) (Sq.litC _ _ fS_len hblk1 rfl rfl (by omega))) ?_
  rintro _ w2 ⟨hc2, hg2, x, rfl, hx⟩
  simp only [↓vsd, vsn, gW, qd, qv, ev, pick, argE, List.map_cons, List.map_nil, Option.map_some, Option.map_none, zipE, List.cons_append, List.nil_append, ne_eq, eq_self, forall_const, implies_true, if_true, if_false, reduceIte, List.cons.injEq, reduceCtorEq, Nat.reduceEqDiff, List.length_nil, List.length_cons, Nat.reduceAdd, Nat.reduceLT, List.set_cons_zero, List.set_cons_succ, ↓us_sl1Cur_pattern, r_sl1Cur_pattern]
  have hx5 : x.length ≤ 5 := (by decide : ∀ x ∈ ([[42], [49, 42], [42, 52, 54], [63, 63, 50, 49, 42], [42, 49, 50, 51, 42], [49, 63, 51, 63], [42, 52, 63], [49, 50, 42], [42, 51, 50, 49], [53, 42, 49, 42], [63, 63, 63, 63], [42, 50, 42]] : List (List UInt8)), x.length ≤ 5) x hx
  refine m_callw (.inl rfl) (sl1Cur_one_ok W b _ 6 (by omega) w2 (by omega) hc2) ?_
  rintro _ w3 ⟨hc3, hg3, y, rfl⟩
  have hg13 := grown_trans (grown_trans (grown_ext _ hx1) hg2) hg3
  cases y
  · simp only [↓vsd, vsn, gW, qd, qv, ev, pick, argE, List.map_cons, List.map_nil, Option.map_some, Option.map_none, zipE, List.cons_append, List.nil_append, ne_eq, eq_self, forall_const, implies_true, if_true, if_false, reduceIte, List.cons.injEq, reduceCtorEq, Nat.reduceEqDiff, List.length_nil, List.length_cons, Nat.reduceAdd, Nat.reduceLT, List.set_cons_zero, List.set_cons_succ, ↓us_sl1Cur_pattern, r_sl1Cur_pattern]
    exact ⟨hc3.mono (by omega), hg13, _, rfl, by omega⟩
  · simp only [↓vsd, vsn, gW, qd, qv, ev, pick, argE, List.map_cons, List.map_nil, Option.map_some, Option.map_none, zipE, List.cons_append, List.nil_append, ne_eq, eq_self, forall_const, implies_true, if_true, if_false, reduceIte, List.cons.injEq, reduceCtorEq, Nat.reduceEqDiff, List.length_nil, List.length_cons, Nat.reduceAdd, Nat.reduceLT, List.set_cons_zero, List.set_cons_succ, ↓us_sl1Cur_pattern, r_sl1Cur_pattern]
    refine m_callw (.inl rfl) (sl1Cur_spoilt_ok W b _ x [49, 50, 42, 63, 57] w3 (by omega) (by omega) (by decide) hc3) ?_
    rintro _ w4 ⟨hc4, hg4, y, rfl, hy⟩
    simp only [↓vsd, vsn, gW, qd, qv, ev, pick, argE, List.map_cons, List.map_nil, Option.map_some, Option.map_none, zipE, List.cons_append, List.nil_append, ne_eq, eq_self, forall_const, implies_true, if_true, if_false, reduceIte, List.cons.injEq, reduceCtorEq, Nat.reduceEqDiff, List.length_nil, List.length_cons, Nat.reduceAdd, Nat.reduceLT, List.set_cons_zero, List.set_cons_succ, ↓us_sl1Cur_pattern, r_sl1Cur_pattern]
    exact ⟨hc4.mono (by omega), grown_trans hg13 hg4, _, rfl, by omega⟩
/-- Blocks that are new may be written besides. -/
theorem grown_new {w w1 w2 : World} {r r' : Option Nat} (h : w.grownBy w1 r) (h2 : w1.grownBy w2 r') (hr : ∀ b, r' = some b → w.heap.size ≤ b) : w.grownBy w2 r :=
  ⟨h2.os.trans h.os, h2.tape.trans h.tape, h2.output.trans h.output, Nat.le_trans h.size h2.size, fun i hi hne => (h2.block i (Nat.lt_of_lt_of_le hi h.size) (fun e => by have := hr i e.symm; omega)).trans (h.block i hi hne)⟩
/-- A cursor stays where another block behind it was written. -/
theorem Cur.keep {W : World} {b n : Nat} {w w' : World} {r : Option Nat} (h : Cur W b n w) (hg : w.grownBy w' r) (hr : ∀ c, r = some c → b < c) : Cur W b n w' := by
  obtain ⟨v, code, a, s, hb, hq, hc, ha, hW, hx⟩ := h
  exact ⟨v, code, a, s, hb.same (hg.block b hb.lt (fun e => by have := hr b e.symm; omega)), hq, hc, ha, hW, Below.trans hx ⟨hg.os, hg.tape, hg.output, hg.size, fun i hi => hg.block i (by have := hx.size; omega) (fun e => by have := hr i e.symm; omega)⟩⟩
theorem sl1Cur_rowsOf_ok (W : World) (b n s : Nat) (hs : 3 ≤ s ∧ s ≤ 8) (m : Nat) (hm : m ≤ 100) (w : World) (hn : n ≤ 700000000) (hc : Cur W b n w) : CurFn 129 [cV b, .int .i64 s, .int .i64 m] W b n 1000 w (fun r w' => ∃ l : List (List UInt8), Own fS 1 9 w.heap.size w' r l ∧ l.length ≤ 100) := by
  (refine callsV_of mix Try.func129 c_sl1Cur_rowsOf ?_; simp only [↓vsd, vsn, gW, qd, qv, ev, pick, argE, List.map_cons, List.map_nil, Option.map_some, Option.map_none, zipE, List.cons_append, List.nil_append, ne_eq, eq_self, forall_const, implies_true, if_true, if_false, reduceIte, List.cons.injEq, reduceCtorEq, Nat.reduceEqDiff, List.length_nil, List.length_cons, Nat.reduceAdd, Nat.reduceLT, List.set_cons_zero, List.set_cons_succ, ↓us_sl1Cur_rowsOf, r_sl1Cur_rowsOf])
  have hlt := hc.lt
  refine ⟨inR_i64 (by omega), m_callw (.inl rfl) (sl1Cur_pick_ok W b n (m + 1) (by omega) w (by omega) hc) ?_⟩
  rintro _ w1 ⟨hc1, hg1, x, rfl, hx⟩
  simp only [↓vsd, vsn, gW, qd, qv, ev, pick, argE, List.map_cons, List.map_nil, Option.map_some, Option.map_none, zipE, List.cons_append, List.nil_append, ne_eq, eq_self, forall_const, implies_true, if_true, if_false, reduceIte, List.cons.injEq, reduceCtorEq, Nat.reduceEqDiff, List.length_nil, List.length_cons, Nat.reduceAdd, Nat.reduceLT, List.set_cons_zero, List.set_cons_succ, ↓us_sl1Cur_rowsOf, r_sl1Cur_rowsOf]
  refine m_loop (fun j vs w' => ∃ (v : Value) (l : List (List UInt8)), vs = [v, .int .i64 j] ∧ j ≤ 100 ∧ l.length + j ≤ 100 ∧ Own fS 1 9 w.heap.size w' v l ∧ Cur W b (n + 202 - 2 * j) w' ∧ w.grownBy w' (some b)) x ⟨_, [], rfl, by omega, by simp; omega, Own.nil fS_len, hc1.mono (by omega), hg1⟩ ?_
  rintro j vs w2 ⟨v, l, rfl, hj, hl, ho, hc2, hg2⟩
  have hBb : ∀ c, some b = some c → c < w.heap.size := fun c hc => by obtain rfl := Option.some.inj hc; exact hlt.2
  by_cases hj0 : 0 < j
  · have hjI : 0 < (j : Int) := by omega
    have hjJ : ¬ (j : Int) ≤ 0 := by omega
    simp only [↓vsd, vsn, gW, qd, qv, ev, pick, argE, List.map_cons, List.map_nil, Option.map_some, Option.map_none, zipE, List.cons_append, List.nil_append, ne_eq, eq_self, forall_const, implies_true, if_true, if_false, reduceIte, List.cons.injEq, reduceCtorEq, Nat.reduceEqDiff, List.length_nil, List.length_cons, Nat.reduceAdd, Nat.reduceLT, List.set_cons_zero, List.set_cons_succ, ↓us_sl1Cur_rowsOf, r_sl1Cur_rowsOf, hjI, hjJ]
    refine m_callw (.inl rfl) (sl1Cur_row_ok W b _ s hs w2 (by omega) hc2) ?_
    rintro _ w3 ⟨hc3, hg3, y, rfl, hy⟩
    have ho3 := ho.keep hg3 hBb
    simp only [↓vsd, vsn, gW, qd, qv, ev, pick, argE, List.map_cons, List.map_nil, Option.map_some, Option.map_none, zipE, List.cons_append, List.nil_append, ne_eq, eq_self, forall_const, implies_true, if_true, if_false, reduceIte, List.cons.injEq, reduceCtorEq, Nat.reduceEqDiff, List.length_nil, List.length_cons, Nat.reduceAdd, Nat.reduceLT, List.set_cons_zero, List.set_cons_succ, ↓us_sl1Cur_rowsOf, r_sl1Cur_rowsOf]
    refine m_bsl (one_el rfl) ?_
    rintro b4 w4 hb4 hblk4 hx4 hs4
    simp only [↓vsd, vsn, gW, qd, qv, ev, pick, argE, List.map_cons, List.map_nil, Option.map_some, Option.map_none, zipE, List.cons_append, List.nil_append, ne_eq, eq_self, forall_const, implies_true, if_true, if_false, reduceIte, List.cons.injEq, reduceCtorEq, Nat.reduceEqDiff, List.length_nil, List.length_cons, Nat.reduceAdd, Nat.reduceLT, List.set_cons_zero, List.set_cons_succ, ↓us_sl1Cur_rowsOf, r_sl1Cur_rowsOf]
    have hg24 := grown_trans (grown_trans hg2 hg3) (grown_ext _ hx4)
    refine m_app (ho3.ext hx4) (Sq.one fS_len hblk4 rfl) fS_one (by decide) (by simp; omega) (by decide) hg24.size ?_
    rintro v5 w5 ho5 hg5
    simp only [↓vsd, vsn, gW, qd, qv, ev, pick, argE, List.map_cons, List.map_nil, Option.map_some, Option.map_none, zipE, List.cons_append, List.nil_append, ne_eq, eq_self, forall_const, implies_true, if_true, if_false, reduceIte, List.cons.injEq, reduceCtorEq, Nat.reduceEqDiff, List.length_nil, List.length_cons, Nat.reduceAdd, Nat.reduceLT, List.set_cons_zero, List.set_cons_succ, ↓us_sl1Cur_rowsOf, r_sl1Cur_rowsOf]
    have hbnd := (ho3.ext hx4).bound
    refine ⟨inR_i64 (by omega), j - 1, by omega, v5, l ++ [y], ⟨rfl, by rw [show ((j : Int) - 1) = ((j - 1 : Nat) : Int) by omega]⟩, by omega, by simp; omega, ho5, ((hc3.ext hx4).keep hg5 (fun c hc => by have := (hbnd c hc).1; omega)).mono (by omega), grown_new hg24 hg5 (fun c hc => (hbnd c hc).1)⟩
  · have hjI : ¬ 0 < (j : Int) := by omega
    simp only [↓vsd, vsn, gW, qd, qv, ev, pick, argE, List.map_cons, List.map_nil, Option.map_some, Option.map_none, zipE, List.cons_append, List.nil_append, ne_eq, eq_self, forall_const, implies_true, if_true, if_false, reduceIte, List.cons.injEq, reduceCtorEq, Nat.reduceEqDiff, List.length_nil, List.length_cons, Nat.reduceAdd, Nat.reduceLT, List.set_cons_zero, List.set_cons_succ, ↓us_sl1Cur_rowsOf, r_sl1Cur_rowsOf, hjI, ho.sq.facts]
    refine ⟨fun hpos => m_callw (.inl rfl) (sl1Cur_one_ok W b _ 25 (by omega) w2 (by omega) hc2) ?_, fun _ => ⟨hc2.mono (by omega), hg2, l, ho, by omega⟩⟩
    rintro _ w3 ⟨hc3, hg3, y, rfl⟩
    have ho3 := ho.keep hg3 hBb
    have hg13 := grown_trans hg2 hg3
    cases y
    · simp only [↓vsd, vsn, gW, qd, qv, ev, pick, argE, List.map_cons, List.map_nil, Option.map_some, Option.map_none, zipE, List.cons_append, List.nil_append, ne_eq, eq_self, forall_const, implies_true, if_true, if_false, reduceIte, List.cons.injEq, reduceCtorEq, Nat.reduceEqDiff, List.length_nil, List.length_cons, Nat.reduceAdd, Nat.reduceLT, List.set_cons_zero, List.set_cons_succ, ↓us_sl1Cur_rowsOf, r_sl1Cur_rowsOf, hpos]
      exact ⟨hc3.mono (by omega), hg13, l, ho3, by omega⟩
    · simp only [↓vsd, vsn, gW, qd, qv, ev, pick, argE, List.map_cons, List.map_nil, Option.map_some, Option.map_none, zipE, List.cons_append, List.nil_append, ne_eq, eq_self, forall_const, implies_true, if_true, if_false, reduceIte, List.cons.injEq, reduceCtorEq, Nat.reduceEqDiff, List.length_nil, List.length_cons, Nat.reduceAdd, Nat.reduceLT, List.set_cons_zero, List.set_cons_succ, ↓us_sl1Cur_rowsOf, r_sl1Cur_rowsOf, ho3.sq.facts, hpos]
      trace_state
      refine ⟨by omega, m_set1 0 [49] ho3 rfl (by omega) rfl fS_one ?_⟩
      rintro w4 ho4 hg4 hs4
      simp only [↓vsd, vsn, gW, qd, qv, ev, pick, argE, List.map_cons, List.map_nil, Option.map_some, Option.map_none, zipE, List.cons_append, List.nil_append, ne_eq, eq_self, forall_const, implies_true, if_true, if_false, reduceIte, List.cons.injEq, reduceCtorEq, Nat.reduceEqDiff, List.length_nil, List.length_cons, Nat.reduceAdd, Nat.reduceLT, List.set_cons_zero, List.set_cons_succ, ↓us_sl1Cur_rowsOf, r_sl1Cur_rowsOf]
      have hbnd := ho3.bound
      exact ⟨(hc3.keep hg4 (fun c hc => by have := (hbnd c hc).1; omega)).mono (by omega), grown_new hg13 hg4 (fun c hc => (hbnd c hc).1), _, ho4, by rw [List.length_set]; omega⟩
theorem sDrawFitsRow_ok (v : Value) (code : List UInt8) (hl : code.length ≤ 1048576) (w : World) (h : Sq fU 1 w v code) : Fn 61 [v] w (fun r _ => ∃ x y, r = .tuple ⟨[S x, S y]⟩ ∧ x.length ≤ 20 ∧ y.length ≤ 10) := by
  (refine callsV_of mix Try.func61 c_sDrawFitsRow ?_; simp only [↓vsd, vsn, gW, qd, qv, ev, pick, argE, List.map_cons, List.map_nil, Option.map_some, Option.map_none, zipE, List.cons_append, List.nil_append, ne_eq, eq_self, forall_const, implies_true, if_true, if_false, reduceIte, List.cons.injEq, reduceCtorEq, Nat.reduceEqDiff, List.length_nil, List.length_cons, Nat.reduceAdd, Nat.reduceLT, List.set_cons_zero, List.set_cons_succ, ↓us_sDrawFitsRow, r_sDrawFitsRow])
  simp only [↓vsd, vsn, gW, qd, qv, ev, pick, argE, List.map_cons, List.map_nil, Option.map_some, Option.map_none, zipE, List.cons_append, List.nil_append, ne_eq, eq_self, forall_const, implies_true, if_true, if_false, reduceIte, List.cons.injEq, reduceCtorEq, Nat.reduceEqDiff, List.length_nil, List.length_cons, Nat.reduceAdd, Nat.reduceLT, List.set_cons_zero, List.set_cons_succ, ↓us_sDrawFitsRow, r_sDrawFitsRow, h.facts]
  refine m_al ?_
  rintro b w1 hb hblk hx1 hs1
  have hc := Cur.new h hl hb hblk hx1
  simp only [↓vsd, vsn, gW, qd, qv, ev, pick, argE, List.map_cons, List.map_nil, Option.map_some, Option.map_none, zipE, List.cons_append, List.nil_append, ne_eq, eq_self, forall_const, implies_true, if_true, if_false, reduceIte, List.cons.injEq, reduceCtorEq, Nat.reduceEqDiff, List.length_nil, List.length_cons, Nat.reduceAdd, Nat.reduceLT, List.set_cons_zero, List.set_cons_succ, ↓us_sDrawFitsRow, r_sDrawFitsRow]
  refine m_callw (.inl rfl) (sl1Cur_pattern_ok w b _ w1 (by omega) hc) ?_
  rintro _ w2 ⟨hc2, hg2, x, rfl, hx⟩
  simp only [↓vsd, vsn, gW, qd, qv, ev, pick, argE, List.map_cons, List.map_nil, Option.map_some, Option.map_none, zipE, List.cons_append, List.nil_append, ne_eq, eq_self, forall_const, implies_true, if_true, if_false, reduceIte, List.cons.injEq, reduceCtorEq, Nat.reduceEqDiff, List.length_nil, List.length_cons, Nat.reduceAdd, Nat.reduceLT, List.set_cons_zero, List.set_cons_succ, ↓us_sDrawFitsRow, r_sDrawFitsRow]
  refine m_callw (.inl rfl) (sl1Cur_anyRow_ok w b _ w2 (by omega) hc2) ?_
  rintro _ w3 ⟨hc3, hg3, y, rfl, hy⟩
  simp only [↓vsd, vsn, gW, qd, qv, ev, pick, argE, List.map_cons, List.map_nil, Option.map_some, Option.map_none, zipE, List.cons_append, List.nil_append, ne_eq, eq_self, forall_const, implies_true, if_true, if_false, reduceIte, List.cons.injEq, reduceCtorEq, Nat.reduceEqDiff, List.length_nil, List.length_cons, Nat.reduceAdd, Nat.reduceLT, List.set_cons_zero, List.set_cons_succ, ↓us_sDrawFitsRow, r_sDrawFitsRow]
  exact ⟨hc3.base, _, _, rfl, hx, hy⟩
theorem sDrawCountFits_ok (v : Value) (code : List UInt8) (hl : code.length ≤ 1048576) (w : World) (h : Sq fU 1 w v code) : Fn 64 [v] w (fun r w' => ∃ x y l, r = .tuple ⟨[S x, y]⟩ ∧ x.length ≤ 20 ∧ Own fS 1 9 w.heap.size w' y l ∧ l.length ≤ 100) := by
  (refine callsV_of mix Try.func64 c_sDrawCountFits ?_; simp only [↓vsd, vsn, gW, qd, qv, ev, pick, argE, List.map_cons, List.map_nil, Option.map_some, Option.map_none, zipE, List.cons_append, List.nil_append, ne_eq, eq_self, forall_const, implies_true, if_true, if_false, reduceIte, List.cons.injEq, reduceCtorEq, Nat.reduceEqDiff, List.length_nil, List.length_cons, Nat.reduceAdd, Nat.reduceLT, List.set_cons_zero, List.set_cons_succ, ↓us_sDrawCountFits, r_sDrawCountFits])
  simp only [↓vsd, vsn, gW, qd, qv, ev, pick, argE, List.map_cons, List.map_nil, Option.map_some, Option.map_none, zipE, List.cons_append, List.nil_append, ne_eq, eq_self, forall_const, implies_true, if_true, if_false, reduceIte, List.cons.injEq, reduceCtorEq, Nat.reduceEqDiff, List.length_nil, List.length_cons, Nat.reduceAdd, Nat.reduceLT, List.set_cons_zero, List.set_cons_succ, ↓us_sDrawCountFits, r_sDrawCountFits, h.facts]
  refine m_al ?_
  rintro b w1 hb hblk hx1 hs1
  have hc := Cur.new h hl hb hblk hx1
  simp only [↓vsd, vsn, gW, qd, qv, ev, pick, argE, List.map_cons, List.map_nil, Option.map_some, Option.map_none, zipE, List.cons_append, List.nil_append, ne_eq, eq_self, forall_const, implies_true, if_true, if_false, reduceIte, List.cons.injEq, reduceCtorEq, Nat.reduceEqDiff, List.length_nil, List.length_cons, Nat.reduceAdd, Nat.reduceLT, List.set_cons_zero, List.set_cons_succ, ↓us_sDrawCountFits, r_sDrawCountFits]
  refine m_callw (.inl rfl) (sl1Cur_pattern_ok w b _ w1 (by omega) hc) ?_
  rintro _ w2 ⟨hc2, hg2, x, rfl, hx⟩
  simp only [↓vsd, vsn, gW, qd, qv, ev, pick, argE, List.map_cons, List.map_nil, Option.map_some, Option.map_none, zipE, List.cons_append, List.nil_append, ne_eq, eq_self, forall_const, implies_true, if_true, if_false, reduceIte, List.cons.injEq, reduceCtorEq, Nat.reduceEqDiff, List.length_nil, List.length_cons, Nat.reduceAdd, Nat.reduceLT, List.set_cons_zero, List.set_cons_succ, ↓us_sDrawCountFits, r_sDrawCountFits]
  refine m_callw (.inl rfl) (sl1Cur_stage_ok w b _ w2 (by omega) hc2) ?_
  rintro _ w3 ⟨hc3, hg3, s, rfl, hs⟩
  simp only [↓vsd, vsn, gW, qd, qv, ev, pick, argE, List.map_cons, List.map_nil, Option.map_some, Option.map_none, zipE, List.cons_append, List.nil_append, ne_eq, eq_self, forall_const, implies_true, if_true, if_false, reduceIte, List.cons.injEq, reduceCtorEq, Nat.reduceEqDiff, List.length_nil, List.length_cons, Nat.reduceAdd, Nat.reduceLT, List.set_cons_zero, List.set_cons_succ, ↓us_sDrawCountFits, r_sDrawCountFits]
  refine m_callw (.inl rfl) (sl1Cur_rowsOf_ok w b _ s hs 9 (by omega) w3 (by omega) hc3) ?_
  rintro y w4 ⟨hc4, hg4, l, ho, hll⟩
  simp only [↓vsd, vsn, gW, qd, qv, ev, pick, argE, List.map_cons, List.map_nil, Option.map_some, Option.map_none, zipE, List.cons_append, List.nil_append, ne_eq, eq_self, forall_const, implies_true, if_true, if_false, reduceIte, List.cons.injEq, reduceCtorEq, Nat.reduceEqDiff, List.length_nil, List.length_cons, Nat.reduceAdd, Nat.reduceLT, List.set_cons_zero, List.set_cons_succ, ↓us_sDrawCountFits, r_sDrawCountFits]
  exact ⟨hc4.base, _, _, l, rfl, hx, ho.mono hc3.base.size, hll⟩
theorem sDrawRowsThatFit_ok (v : Value) (code : List UInt8) (hl : code.length ≤ 1048576) (w : World) (h : Sq fU 1 w v code) : Fn 67 [v] w (fun r _ => ∃ x y, r = .tuple ⟨[S x, .int .i64 y]⟩ ∧ x.length ≤ 20) := by
  (refine callsV_of mix Try.func67 c_sDrawRowsThatFit ?_; simp only [↓vsd, vsn, gW, qd, qv, ev, pick, argE, List.map_cons, List.map_nil, Option.map_some, Option.map_none, zipE, List.cons_append, List.nil_append, ne_eq, eq_self, forall_const, implies_true, if_true, if_false, reduceIte, List.cons.injEq, reduceCtorEq, Nat.reduceEqDiff, List.length_nil, List.length_cons, Nat.reduceAdd, Nat.reduceLT, List.set_cons_zero, List.set_cons_succ, ↓us_sDrawRowsThatFit, r_sDrawRowsThatFit])
  simp only [↓vsd, vsn, gW, qd, qv, ev, pick, argE, List.map_cons, List.map_nil, Option.map_some, Option.map_none, zipE, List.cons_append, List.nil_append, ne_eq, eq_self, forall_const, implies_true, if_true, if_false, reduceIte, List.cons.injEq, reduceCtorEq, Nat.reduceEqDiff, List.length_nil, List.length_cons, Nat.reduceAdd, Nat.reduceLT, List.set_cons_zero, List.set_cons_succ, ↓us_sDrawRowsThatFit, r_sDrawRowsThatFit, h.facts]
  refine m_al ?_
  rintro b w1 hb hblk hx1 hs1
  have hc := Cur.new h hl hb hblk hx1
  simp only [↓vsd, vsn, gW, qd, qv, ev, pick, argE, List.map_cons, List.map_nil, Option.map_some, Option.map_none, zipE, List.cons_append, List.nil_append, ne_eq, eq_self, forall_const, implies_true, if_true, if_false, reduceIte, List.cons.injEq, reduceCtorEq, Nat.reduceEqDiff, List.length_nil, List.length_cons, Nat.reduceAdd, Nat.reduceLT, List.set_cons_zero, List.set_cons_succ, ↓us_sDrawRowsThatFit, r_sDrawRowsThatFit]
  refine m_callw (.inl rfl) (sl1Cur_pattern_ok w b _ w1 (by omega) hc) ?_
  rintro _ w2 ⟨hc2, hg2, x, rfl, hx⟩
  have hlt := hc2.lt
  simp only [↓vsd, vsn, gW, qd, qv, ev, pick, argE, List.map_cons, List.map_nil, Option.map_some, Option.map_none, zipE, List.cons_append, List.nil_append, ne_eq, eq_self, forall_const, implies_true, if_true, if_false, reduceIte, List.cons.injEq, reduceCtorEq, Nat.reduceEqDiff, List.length_nil, List.length_cons, Nat.reduceAdd, Nat.reduceLT, List.set_cons_zero, List.set_cons_succ, ↓us_sDrawRowsThatFit, r_sDrawRowsThatFit]
  refine m_bsl (fun p hp => by simp only [List.mem_cons, List.not_mem_nil, or_false] at hp; rcases hp with rfl | rfl | rfl | rfl | rfl | rfl | rfl | rfl <;> rfl) ?_
  rintro b3 w3 hb3 hblk3 hx3 hs3
  simp only [↓vsd, vsn, gW, qd, qv, ev, pick, argE, List.map_cons, List.map_nil, Option.map_some, Option.map_none, zipE, List.cons_append, List.nil_append, ne_eq, eq_self, forall_const, implies_true, if_true, if_false, reduceIte, List.cons.injEq, reduceCtorEq, Nat.reduceEqDiff, List.length_nil, List.length_cons, Nat.reduceAdd, Nat.reduceLT, List.set_cons_zero, List.set_cons_succ, ↓us_sDrawRowsThatFit, r_sDrawRowsThatFit]
  refine m_callw (.inl rfl) (sl1Cur_among_ok w b _ _ [3, 4, 5, 6, 5, 4, 2, 7] w3 (by omega) (by decide) (hc2.ext hx3) (Sq.litC _ _ fI_len hblk3 rfl rfl (by omega))) ?_
  rintro _ w4 ⟨hc4, hg4, y, rfl, hy⟩
  simp only [↓vsd, vsn, gW, qd, qv, ev, pick, argE, List.map_cons, List.map_nil, Option.map_some, Option.map_none, zipE, List.cons_append, List.nil_append, ne_eq, eq_self, forall_const, implies_true, if_true, if_false, reduceIte, List.cons.injEq, reduceCtorEq, Nat.reduceEqDiff, List.length_nil, List.length_cons, Nat.reduceAdd, Nat.reduceLT, List.set_cons_zero, List.set_cons_succ, ↓us_sDrawRowsThatFit, r_sDrawRowsThatFit]
  exact ⟨hc4.base, _, _, rfl, hx⟩
theorem sDrawRunsIn_ok (v : Value) (code : List UInt8) (hl : code.length ≤ 1048576) (w : World) (h : Sq fU 1 w v code) : Fn 68 [v] w (fun r _ => ∃ x y, r = .tuple ⟨[S x, .int .i64 y]⟩ ∧ x.length ≤ 20) := by
  (refine callsV_of mix Try.func68 c_sDrawRunsIn ?_; simp only [↓vsd, vsn, gW, qd, qv, ev, pick, argE, List.map_cons, List.map_nil, Option.map_some, Option.map_none, zipE, List.cons_append, List.nil_append, ne_eq, eq_self, forall_const, implies_true, if_true, if_false, reduceIte, List.cons.injEq, reduceCtorEq, Nat.reduceEqDiff, List.length_nil, List.length_cons, Nat.reduceAdd, Nat.reduceLT, List.set_cons_zero, List.set_cons_succ, ↓us_sDrawRunsIn, r_sDrawRunsIn])
  simp only [↓vsd, vsn, gW, qd, qv, ev, pick, argE, List.map_cons, List.map_nil, Option.map_some, Option.map_none, zipE, List.cons_append, List.nil_append, ne_eq, eq_self, forall_const, implies_true, if_true, if_false, reduceIte, List.cons.injEq, reduceCtorEq, Nat.reduceEqDiff, List.length_nil, List.length_cons, Nat.reduceAdd, Nat.reduceLT, List.set_cons_zero, List.set_cons_succ, ↓us_sDrawRunsIn, r_sDrawRunsIn, h.facts]
  refine m_al ?_
  rintro b w1 hb hblk hx1 hs1
  have hc := Cur.new h hl hb hblk hx1
  simp only [↓vsd, vsn, gW, qd, qv, ev, pick, argE, List.map_cons, List.map_nil, Option.map_some, Option.map_none, zipE, List.cons_append, List.nil_append, ne_eq, eq_self, forall_const, implies_true, if_true, if_false, reduceIte, List.cons.injEq, reduceCtorEq, Nat.reduceEqDiff, List.length_nil, List.length_cons, Nat.reduceAdd, Nat.reduceLT, List.set_cons_zero, List.set_cons_succ, ↓us_sDrawRunsIn, r_sDrawRunsIn]
  refine m_callw (.inl rfl) (sl1Cur_anyRow_ok w b _ w1 (by omega) hc) ?_
  rintro _ w2 ⟨hc2, hg2, x, rfl, hx⟩
  simp only [↓vsd, vsn, gW, qd, qv, ev, pick, argE, List.map_cons, List.map_nil, Option.map_some, Option.map_none, zipE, List.cons_append, List.nil_append, ne_eq, eq_self, forall_const, implies_true, if_true, if_false, reduceIte, List.cons.injEq, reduceCtorEq, Nat.reduceEqDiff, List.length_nil, List.length_cons, Nat.reduceAdd, Nat.reduceLT, List.set_cons_zero, List.set_cons_succ, ↓us_sDrawRunsIn, r_sDrawRunsIn]
  refine m_callw (.inl rfl) (sl1Cur_one_ok w b _ 3 (by omega) w2 (by omega) hc2) ?_
  rintro _ w3 ⟨hc3, hg3, y, rfl⟩
  cases y
  · simp only [↓vsd, vsn, gW, qd, qv, ev, pick, argE, List.map_cons, List.map_nil, Option.map_some, Option.map_none, zipE, List.cons_append, List.nil_append, ne_eq, eq_self, forall_const, implies_true, if_true, if_false, reduceIte, List.cons.injEq, reduceCtorEq, Nat.reduceEqDiff, List.length_nil, List.length_cons, Nat.reduceAdd, Nat.reduceLT, List.set_cons_zero, List.set_cons_succ, ↓us_sDrawRunsIn, r_sDrawRunsIn]
    refine m_callw (.inl rfl) (sl1Cur_pick_ok w b _ 10 (by omega) w3 (by omega) hc3) ?_
    rintro _ w4 ⟨hc4, hg4, z, rfl, hz⟩
    simp only [↓vsd, vsn, gW, qd, qv, ev, pick, argE, List.map_cons, List.map_nil, Option.map_some, Option.map_none, zipE, List.cons_append, List.nil_append, ne_eq, eq_self, forall_const, implies_true, if_true, if_false, reduceIte, List.cons.injEq, reduceCtorEq, Nat.reduceEqDiff, List.length_nil, List.length_cons, Nat.reduceAdd, Nat.reduceLT, List.set_cons_zero, List.set_cons_succ, ↓us_sDrawRunsIn, r_sDrawRunsIn]
    exact ⟨hc4.base, _, _, rfl, by omega⟩
  · simp only [↓vsd, vsn, gW, qd, qv, ev, pick, argE, List.map_cons, List.map_nil, Option.map_some, Option.map_none, zipE, List.cons_append, List.nil_append, ne_eq, eq_self, forall_const, implies_true, if_true, if_false, reduceIte, List.cons.injEq, reduceCtorEq, Nat.reduceEqDiff, List.length_nil, List.length_cons, Nat.reduceAdd, Nat.reduceLT, List.set_cons_zero, List.set_cons_succ, ↓us_sDrawRunsIn, r_sDrawRunsIn]
    have hlt := hc3.lt
    refine m_bsl (fun p hp => by simp only [List.mem_cons, List.not_mem_nil, or_false] at hp; rcases hp with rfl | rfl | rfl | rfl | rfl <;> rfl) ?_
    rintro b4 w4 hb4 hblk4 hx4 hs4
    simp only [↓vsd, vsn, gW, qd, qv, ev, pick, argE, List.map_cons, List.map_nil, Option.map_some, Option.map_none, zipE, List.cons_append, List.nil_append, ne_eq, eq_self, forall_const, implies_true, if_true, if_false, reduceIte, List.cons.injEq, reduceCtorEq, Nat.reduceEqDiff, List.length_nil, List.length_cons, Nat.reduceAdd, Nat.reduceLT, List.set_cons_zero, List.set_cons_succ, ↓us_sDrawRunsIn, r_sDrawRunsIn]
    refine m_callw (.inl rfl) (sl1Cur_of_ok w b _ _ [[49, 50, 51, 52, 53, 54, 55, 56], [56, 55, 54, 53, 52, 51, 50, 49], [49, 50, 51, 52], [50, 49, 51, 52, 53, 54], [54, 53, 52, 51, 50, 49]] w4 (by omega) (by decide) (hc3.ext hx4) (Sq.litC _ _ fS_len hblk4 rfl rfl (by omega))) ?_
    rintro _ w5 ⟨hc5, hg5, x, rfl, hx⟩
    have hx5 : x.length ≤ 8 := (by decide : ∀ x ∈ ([[49, 50, 51, 52, 53, 54, 55, 56], [56, 55, 54, 53, 52, 51, 50, 49], [49, 50, 51, 52], [50, 49, 51, 52, 53, 54], [54, 53, 52, 51, 50, 49]] : List (List UInt8)), x.length ≤ 8) x hx
    simp only [↓vsd, vsn, gW, qd, qv, ev, pick, argE, List.map_cons, List.map_nil, Option.map_some, Option.map_none, zipE, List.cons_append, List.nil_append, ne_eq, eq_self, forall_const, implies_true, if_true, if_false, reduceIte, List.cons.injEq, reduceCtorEq, Nat.reduceEqDiff, List.length_nil, List.length_cons, Nat.reduceAdd, Nat.reduceLT, List.set_cons_zero, List.set_cons_succ, ↓us_sDrawRunsIn, r_sDrawRunsIn]
    refine m_callw (.inl rfl) (sl1Cur_pick_ok w b _ 10 (by omega) w5 (by omega) hc5) ?_
    rintro _ w6 ⟨hc6, hg6, z, rfl, hz⟩
    simp only [↓vsd, vsn, gW, qd, qv, ev, pick, argE, List.map_cons, List.map_nil, Option.map_some, Option.map_none, zipE, List.cons_append, List.nil_append, ne_eq, eq_self, forall_const, implies_true, if_true, if_false, reduceIte, List.cons.injEq, reduceCtorEq, Nat.reduceEqDiff, List.length_nil, List.length_cons, Nat.reduceAdd, Nat.reduceLT, List.set_cons_zero, List.set_cons_succ, ↓us_sDrawRunsIn, r_sDrawRunsIn]
    exact ⟨hc6.base, _, _, rfl, by omega⟩
theorem lqSameS_ok (v1 v2 : Value) (l1 l2 : List (List UInt8)) (w : World) (h1 : Sq fS 1 w v1 l1) (h2 : Sq fS 1 w v2 l2) (hl : l1.length ≤ 1000000000) : Fn 71 [v1, v2] w (fun v _ => v = .bool (decide (l1 = l2))) := by
  (refine callsV_of mix Try.func71 c_lqSameS ?_; simp only [↓vsd, vsn, gW, qd, qv, ev, pick, argE, List.map_cons, List.map_nil, Option.map_some, Option.map_none, zipE, List.cons_append, List.nil_append, ne_eq, eq_self, forall_const, implies_true, if_true, if_false, reduceIte, List.cons.injEq, reduceCtorEq, Nat.reduceEqDiff, List.length_nil, List.length_cons, Nat.reduceAdd, Nat.reduceLT, List.set_cons_zero, List.set_cons_succ, ↓us_lqSameS, r_lqSameS])
  simp only [↓vsd, vsn, gW, qd, qv, ev, pick, argE, List.map_cons, List.map_nil, Option.map_some, Option.map_none, zipE, List.cons_append, List.nil_append, ne_eq, eq_self, forall_const, implies_true, if_true, if_false, reduceIte, List.cons.injEq, reduceCtorEq, Nat.reduceEqDiff, List.length_nil, List.length_cons, Nat.reduceAdd, Nat.reduceLT, List.set_cons_zero, List.set_cons_succ, ↓us_lqSameS, r_lqSameS, h1.facts, h2.facts]
  refine ⟨fun hne => ⟨Ext.refl _, ?_⟩, fun he => ?_⟩
  · have : ¬ l1 = l2 := fun e => hne (by rw [e])
    simp [this]
  refine m_upto l1.length (fun k vs w' => vs = [.int .i64 k] ∧ l1.take k = l2.take k ∧ Ext w w') ⟨rfl, rfl, Ext.refl _⟩ ?_
  rintro k vs w3 hk ⟨rfl, heq, hx⟩
  have g1 := h1.ext hx
  have g2 := h2.ext hx
  by_cases hlt : k < l1.length
  · have hlt2 : k < l2.length := by omega
    have hltI : (k : Int) < l1.length := by omega
    have hltJ : ¬ (l1.length : Int) ≤ k := by omega
    simp only [↓vsd, vsn, gW, qd, qv, ev, pick, argE, List.map_cons, List.map_nil, Option.map_some, Option.map_none, zipE, List.cons_append, List.nil_append, ne_eq, eq_self, forall_const, implies_true, if_true, if_false, reduceIte, List.cons.injEq, reduceCtorEq, Nat.reduceEqDiff, List.length_nil, List.length_cons, Nat.reduceAdd, Nat.reduceLT, List.set_cons_zero, List.set_cons_succ, ↓us_lqSameS, r_lqSameS, g1.facts, g2.facts, g1.at1 [] hlt, g2.at1 [] hlt2, hltI, hltJ]
    exact ⟨by omega, by omega, fun hne => ⟨hx, by simp [ne_at k hne]⟩, fun he2 => ⟨inR_i64 (by omega), UpTo.next hlt ⟨rfl, eq_take heq hlt hlt2 he2, dr hx⟩⟩⟩
  · obtain rfl : k = l1.length := by omega
    have hltI : ¬ (l1.length : Int) < l1.length := by omega
    simp only [↓vsd, vsn, gW, qd, qv, ev, pick, argE, List.map_cons, List.map_nil, Option.map_some, Option.map_none, zipE, List.cons_append, List.nil_append, ne_eq, eq_self, forall_const, implies_true, if_true, if_false, reduceIte, List.cons.injEq, reduceCtorEq, Nat.reduceEqDiff, List.length_nil, List.length_cons, Nat.reduceAdd, Nat.reduceLT, List.set_cons_zero, List.set_cons_succ, ↓us_lqSameS, r_lqSameS, g1.facts, hltI]
    exact ⟨hx, by simp [eq_len heq (by omega)]⟩
end Go.Proofs.Ytnocgihggdgkeaa
